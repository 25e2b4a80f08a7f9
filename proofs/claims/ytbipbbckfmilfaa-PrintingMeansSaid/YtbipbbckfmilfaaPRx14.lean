-- Written by this session's own program (myprint.py).
import Derived.Test.YtbipbbckfmilfaaPRx0
import Derived.Test.YtbipbbckfmilfaaPRx4
import Derived.Test.YtbipbbckfmilfaaPRx9
import Derived.Test.YtbipbbckfmilfaaPRx10
import Derived.Test.YtbipbbckfmilfaaPRx11
import Derived.Test.YtbipbbckfmilfaaPRx12
import Derived.Test.YtbipbbckfmilfaaPRx13
namespace Go.Proofs.Ytbipbbckfmilfaa.PR
open Go.RowKit Go.Proofs.YtbipbbckfmilfaaW.PrintWords Go.Proofs.YtbipbbckfmilfaaW.PrintLast Go.Proofs.YtbipbbckfmilfaaW.PrintMore Go.Proofs.Ytbipbbckfmilfaa.XWords Go.Proofs.Ytbipbbckfmilfaa.XShort Go.Proofs.Ytbipbbckfmilfaa.XFn
attribute [local go_sem] max2_int min2_int max_two min_two max_three min_three max_four min_four   -- for this text's walks alone
set_option linter.unusedVariables false
set_option linter.unusedSimpArgs false

/-! ### barscanlaw43_PrintingMeans: function 4 -/
mutual
def barscanlaw43_PrintingMeans.l0 : Nat → Int → List Int → Int → Int → Int → Int → List Bool → Int → Int → List Int → Option (Bool)
 | 0, _, _, _, _, _, _, _, _, _, _ => none
 | k + 1, x9, x123, x124, x125, x289000, x289001, x289002, x296000, x296001, x296002 => if x125 < x124 then (if 0 ≤ x125 then (if x125 < (x123.length : Int) then (if x289000 = 0 then (none) else (if (Int.tmod x125 x289000) < x9 then (barscanlaw43_PrintingMeans.l1 k x9 (rd x123 x125) (Int.tmod x125 x289000) (wrap64 (Int.tdiv x125 x289000)) 255 255 (mx 0 (wrap64 ((wrap64 (Int.tdiv x125 x289000)) - x9))) x123 x124 x125 x289000 x289001 x289002 x296000 x296001 x296002) else (if (wrap64 (Int.tdiv x125 x289000)) < x9 then (barscanlaw43_PrintingMeans.l1 k x9 (rd x123 x125) (Int.tmod x125 x289000) (wrap64 (Int.tdiv x125 x289000)) 255 255 (mx 0 (wrap64 ((wrap64 (Int.tdiv x125 x289000)) - x9))) x123 x124 x125 x289000 x289001 x289002 x296000 x296001 x296002) else (if (wrap64 ((Int.tmod x125 x289000) + x9)) ≥ x289000 then (barscanlaw43_PrintingMeans.l1 k x9 (rd x123 x125) (Int.tmod x125 x289000) (wrap64 (Int.tdiv x125 x289000)) 255 255 (mx 0 (wrap64 ((wrap64 (Int.tdiv x125 x289000)) - x9))) x123 x124 x125 x289000 x289001 x289002 x296000 x296001 x296002) else (if (wrap64 ((wrap64 (Int.tdiv x125 x289000)) + x9)) ≥ x289001 then (barscanlaw43_PrintingMeans.j3 k x9 (rd x123 x125) (Int.tmod x125 x289000) (wrap64 (Int.tdiv x125 x289000)) 255 255 x123 x124 x125 x289000 x289001 x289002 x296000 x296001 x296002) else (barscanlaw43_PrintingMeans.j3 k x9 (rd x123 x125) (Int.tmod x125 x289000) (wrap64 (Int.tdiv x125 x289000)) 255 0 x123 x124 x125 x289000 x289001 x289002 x296000 x296001 x296002)))))) else (none)) else (none)) else ((barscanlaw43_examples.f k).bind fun t333 => (some t333))
def barscanlaw43_PrintingMeans.l1 : Nat → Int → Int → Int → Int → Int → Int → Int → List Int → Int → Int → Int → Int → List Bool → Int → Int → List Int → Option (Bool)
 | 0, _, _, _, _, _, _, _, _, _, _, _, _, _, _, _, _ => none
 | k + 1, x9, x22, x23, x24, x25, x26, x27, x123, x124, x125, x289000, x289001, x289002, x296000, x296001, x296002 => if x27 ≤ (mn (wrap64 (x289001 - 1)) (wrap64 (x24 + x9))) then (barscanlaw43_PrintingMeans.l2 k x9 x22 x23 x24 x25 x26 x27 (mx 0 (wrap64 (x23 - x9))) x123 x124 x125 x289000 x289001 x289002 x296000 x296001 x296002) else (if x22 < x25 then (none) else (if x22 > x26 then (none) else (barscanlaw43_PrintingMeans.l0 k x9 x123 x124 (wrap64 (x125 + 1)) x289000 x289001 x289002 x296000 x296001 x296002)))
def barscanlaw43_PrintingMeans.l2 : Nat → Int → Int → Int → Int → Int → Int → Int → Int → List Int → Int → Int → Int → Int → List Bool → Int → Int → List Int → Option (Bool)
 | 0, _, _, _, _, _, _, _, _, _, _, _, _, _, _, _, _, _ => none
 | k + 1, x9, x22, x23, x24, x25, x26, x27, x28, x123, x124, x125, x289000, x289001, x289002, x296000, x296001, x296002 => if x28 ≤ (mn (wrap64 (x289000 - 1)) (wrap64 (x23 + x9))) then (if 0 ≤ (wrap64 ((wrap64 (x27 * x289000)) + x28)) then (if (wrap64 ((wrap64 (x27 * x289000)) + x28)) < (x296002.length : Int) then (barscanlaw43_PrintingMeans.l2 k x9 x22 x23 x24 (mn x25 (rd x296002 (wrap64 ((wrap64 (x27 * x289000)) + x28)))) (mx x26 (rd x296002 (wrap64 ((wrap64 (x27 * x289000)) + x28)))) x27 (wrap64 (x28 + 1)) x123 x124 x125 x289000 x289001 x289002 x296000 x296001 x296002) else (none)) else (none)) else (barscanlaw43_PrintingMeans.l1 k x9 x22 x23 x24 x25 x26 (wrap64 (x27 + 1)) x123 x124 x125 x289000 x289001 x289002 x296000 x296001 x296002)
def barscanlaw43_PrintingMeans.j3 : Nat → Int → Int → Int → Int → Int → Int → List Int → Int → Int → Int → Int → List Bool → Int → Int → List Int → Option (Bool)
 | 0, _, _, _, _, _, _, _, _, _, _, _, _, _, _, _ => none
 | k + 1, x9, x22, x23, x24, x25, x26, x123, x124, x125, x289000, x289001, x289002, x296000, x296001, x296002 => barscanlaw43_PrintingMeans.l1 k x9 x22 x23 x24 x25 x26 (mx 0 (wrap64 (x24 - x9))) x123 x124 x125 x289000 x289001 x289002 x296000 x296001 x296002
end
def barscanlaw43_PrintingMeans.f (k : Nat) (a0_0 : Int) (a0_1 : Int) (l0_2 : List Bool) (l1 : List Int) (a2 : Int) (a3 : Int) : Option (Bool) := (barscanlaw43_valid.f a0_0 a0_1 l0_2 1000).bind fun t289 => (if t289 = true then (if (l1.length : Int) < (l0_2.length : Int) then ((barscanlaw43_examples.f k).bind fun t290 => (some t290)) else (if 0 ≤ (l0_2.length : Int) then (if (l0_2.length : Int) ≤ (l1.length : Int) then ((some (l1.take ((l0_2.length : Int) : Int).toNat : List Int)).bind fun y291 => ((printing_Blur.f k a0_0 a0_1 y291 0).bind fun bt296 => ((printing_Blur.f k a0_0 a0_1 y291 (wrap64 (Int.tmod a2 8))).bind fun bt303 => ((printing_Print.f k a0_0 a0_1 l0_2 a3 0 0 0).bind fun bt310 => ((raster_Turn.f k a0_0 a0_1 l0_2 a3).bind fun bt317 => ((raster_Gray.f k bt317.1 bt317.2.1 bt317.2.2.1).bind fun bt324 => (if bt296.2.2.2 = 0 then (if bt303.2.2.2 = 0 then (if bt310.2.2.2 = 0 then (if bt317.2.2.2 = 0 then (if bt324.2.2.2 = 0 then ((barscanlaw43_equal.f k bt296.1 bt296.2.1 bt296.2.2.1 a0_0 a0_1 y291).bind fun t331 => (if t331 = true then ((barscanlaw43_equal.f k bt310.1 bt310.2.1 bt310.2.2.1 bt324.1 bt324.2.1 bt324.2.2.1).bind fun t332 => (if t332 = true then (if (bt303.2.2.1.length : Int) = (y291.length : Int) then (barscanlaw43_PrintingMeans.l0 k (wrap64 (Int.tmod a2 8)) bt303.2.2.1 (bt303.2.2.1.length : Int) 0 a0_0 a0_1 l0_2 a0_0 a0_1 y291) else (none)) else (none))) else (none))) else (none)) else (none)) else (none)) else (none)) else (none)))))))) else (none)) else (none))) else ((barscanlaw43_examples.f k).bind fun t337 => (some t337)))
theorem barscanlaw43_PrintingMeans.mono_l : ∀ k, (∀ y0 y1 y2 y3 y4 y5 y6 y7 y8 y9, LeO (barscanlaw43_PrintingMeans.l0 k y0 y1 y2 y3 y4 y5 y6 y7 y8 y9) (barscanlaw43_PrintingMeans.l0 (k + 1) y0 y1 y2 y3 y4 y5 y6 y7 y8 y9)) ∧ (∀ y0 y1 y2 y3 y4 y5 y6 y7 y8 y9 y10 y11 y12 y13 y14 y15, LeO (barscanlaw43_PrintingMeans.l1 k y0 y1 y2 y3 y4 y5 y6 y7 y8 y9 y10 y11 y12 y13 y14 y15) (barscanlaw43_PrintingMeans.l1 (k + 1) y0 y1 y2 y3 y4 y5 y6 y7 y8 y9 y10 y11 y12 y13 y14 y15)) ∧ (∀ y0 y1 y2 y3 y4 y5 y6 y7 y8 y9 y10 y11 y12 y13 y14 y15 y16, LeO (barscanlaw43_PrintingMeans.l2 k y0 y1 y2 y3 y4 y5 y6 y7 y8 y9 y10 y11 y12 y13 y14 y15 y16) (barscanlaw43_PrintingMeans.l2 (k + 1) y0 y1 y2 y3 y4 y5 y6 y7 y8 y9 y10 y11 y12 y13 y14 y15 y16)) ∧ (∀ y0 y1 y2 y3 y4 y5 y6 y7 y8 y9 y10 y11 y12 y13 y14, LeO (barscanlaw43_PrintingMeans.j3 k y0 y1 y2 y3 y4 y5 y6 y7 y8 y9 y10 y11 y12 y13 y14) (barscanlaw43_PrintingMeans.j3 (k + 1) y0 y1 y2 y3 y4 y5 y6 y7 y8 y9 y10 y11 y12 y13 y14))
 | 0 => ⟨fun _ _ _ _ _ _ _ _ _ _ r h => by simp [barscanlaw43_PrintingMeans.l0] at h, fun _ _ _ _ _ _ _ _ _ _ _ _ _ _ _ _ r h => by simp [barscanlaw43_PrintingMeans.l1] at h, fun _ _ _ _ _ _ _ _ _ _ _ _ _ _ _ _ _ r h => by simp [barscanlaw43_PrintingMeans.l2] at h, fun _ _ _ _ _ _ _ _ _ _ _ _ _ _ _ r h => by simp [barscanlaw43_PrintingMeans.j3] at h⟩
 | k + 1 => by
  obtain ⟨ih0, ih1, ih2, ih3⟩ := barscanlaw43_PrintingMeans.mono_l k
  refine ⟨?_, ?_, ?_, ?_⟩
  ·intro y0 y1 y2 y3 y4 y5 y6 y7 y8 y9
   unfold barscanlaw43_PrintingMeans.l0
   repeat' first
   | (with_reducible exact ih0 _ _ _ _ _ _ _ _ _ _)
   | (with_reducible exact ih1 _ _ _ _ _ _ _ _ _ _ _ _ _ _ _ _)
   | (with_reducible exact ih2 _ _ _ _ _ _ _ _ _ _ _ _ _ _ _ _ _)
   | (with_reducible exact ih3 _ _ _ _ _ _ _ _ _ _ _ _ _ _ _)
   | (with_reducible exact barscanlaw43_equal.mono _ _ _ _ _ _ _)
   | (with_reducible exact barscanlaw43_examples.mono _)
   | (with_reducible exact printing_Blur.mono _ _ _ _ _)
   | (with_reducible exact printing_Print.mono _ _ _ _ _ _ _ _)
   | (with_reducible exact raster_Gray.mono _ _ _ _)
   | (with_reducible exact raster_Turn.mono _ _ _ _ _)
   | (with_reducible exact LeO.refl _)
   | (with_reducible exact LeO.none _)
   | (with_reducible refine LeO.ite ?_ ?_)
   | (with_reducible refine LeO.bind ?_ (fun _ => ?_))
   | exact ih0 _ _ _ _ _ _ _ _ _ _
   | exact ih1 _ _ _ _ _ _ _ _ _ _ _ _ _ _ _ _
   | exact ih2 _ _ _ _ _ _ _ _ _ _ _ _ _ _ _ _ _
   | exact ih3 _ _ _ _ _ _ _ _ _ _ _ _ _ _ _
   | exact barscanlaw43_equal.mono _ _ _ _ _ _ _
   | exact barscanlaw43_examples.mono _
   | exact printing_Blur.mono _ _ _ _ _
   | exact printing_Print.mono _ _ _ _ _ _ _ _
   | exact raster_Gray.mono _ _ _ _
   | exact raster_Turn.mono _ _ _ _ _
   | exact LeO.none _
   | refine LeO.ite ?_ ?_
   | refine LeO.bind ?_ (fun _ => ?_)
  ·intro y0 y1 y2 y3 y4 y5 y6 y7 y8 y9 y10 y11 y12 y13 y14 y15
   unfold barscanlaw43_PrintingMeans.l1
   repeat' first
   | (with_reducible exact ih0 _ _ _ _ _ _ _ _ _ _)
   | (with_reducible exact ih1 _ _ _ _ _ _ _ _ _ _ _ _ _ _ _ _)
   | (with_reducible exact ih2 _ _ _ _ _ _ _ _ _ _ _ _ _ _ _ _ _)
   | (with_reducible exact ih3 _ _ _ _ _ _ _ _ _ _ _ _ _ _ _)
   | (with_reducible exact barscanlaw43_equal.mono _ _ _ _ _ _ _)
   | (with_reducible exact barscanlaw43_examples.mono _)
   | (with_reducible exact printing_Blur.mono _ _ _ _ _)
   | (with_reducible exact printing_Print.mono _ _ _ _ _ _ _ _)
   | (with_reducible exact raster_Gray.mono _ _ _ _)
   | (with_reducible exact raster_Turn.mono _ _ _ _ _)
   | (with_reducible exact LeO.refl _)
   | (with_reducible exact LeO.none _)
   | (with_reducible refine LeO.ite ?_ ?_)
   | (with_reducible refine LeO.bind ?_ (fun _ => ?_))
   | exact ih0 _ _ _ _ _ _ _ _ _ _
   | exact ih1 _ _ _ _ _ _ _ _ _ _ _ _ _ _ _ _
   | exact ih2 _ _ _ _ _ _ _ _ _ _ _ _ _ _ _ _ _
   | exact ih3 _ _ _ _ _ _ _ _ _ _ _ _ _ _ _
   | exact barscanlaw43_equal.mono _ _ _ _ _ _ _
   | exact barscanlaw43_examples.mono _
   | exact printing_Blur.mono _ _ _ _ _
   | exact printing_Print.mono _ _ _ _ _ _ _ _
   | exact raster_Gray.mono _ _ _ _
   | exact raster_Turn.mono _ _ _ _ _
   | exact LeO.none _
   | refine LeO.ite ?_ ?_
   | refine LeO.bind ?_ (fun _ => ?_)
  ·intro y0 y1 y2 y3 y4 y5 y6 y7 y8 y9 y10 y11 y12 y13 y14 y15 y16
   unfold barscanlaw43_PrintingMeans.l2
   repeat' first
   | (with_reducible exact ih0 _ _ _ _ _ _ _ _ _ _)
   | (with_reducible exact ih1 _ _ _ _ _ _ _ _ _ _ _ _ _ _ _ _)
   | (with_reducible exact ih2 _ _ _ _ _ _ _ _ _ _ _ _ _ _ _ _ _)
   | (with_reducible exact ih3 _ _ _ _ _ _ _ _ _ _ _ _ _ _ _)
   | (with_reducible exact barscanlaw43_equal.mono _ _ _ _ _ _ _)
   | (with_reducible exact barscanlaw43_examples.mono _)
   | (with_reducible exact printing_Blur.mono _ _ _ _ _)
   | (with_reducible exact printing_Print.mono _ _ _ _ _ _ _ _)
   | (with_reducible exact raster_Gray.mono _ _ _ _)
   | (with_reducible exact raster_Turn.mono _ _ _ _ _)
   | (with_reducible exact LeO.refl _)
   | (with_reducible exact LeO.none _)
   | (with_reducible refine LeO.ite ?_ ?_)
   | (with_reducible refine LeO.bind ?_ (fun _ => ?_))
   | exact ih0 _ _ _ _ _ _ _ _ _ _
   | exact ih1 _ _ _ _ _ _ _ _ _ _ _ _ _ _ _ _
   | exact ih2 _ _ _ _ _ _ _ _ _ _ _ _ _ _ _ _ _
   | exact ih3 _ _ _ _ _ _ _ _ _ _ _ _ _ _ _
   | exact barscanlaw43_equal.mono _ _ _ _ _ _ _
   | exact barscanlaw43_examples.mono _
   | exact printing_Blur.mono _ _ _ _ _
   | exact printing_Print.mono _ _ _ _ _ _ _ _
   | exact raster_Gray.mono _ _ _ _
   | exact raster_Turn.mono _ _ _ _ _
   | exact LeO.none _
   | refine LeO.ite ?_ ?_
   | refine LeO.bind ?_ (fun _ => ?_)
  ·intro y0 y1 y2 y3 y4 y5 y6 y7 y8 y9 y10 y11 y12 y13 y14
   unfold barscanlaw43_PrintingMeans.j3
   repeat' first
   | (with_reducible exact ih0 _ _ _ _ _ _ _ _ _ _)
   | (with_reducible exact ih1 _ _ _ _ _ _ _ _ _ _ _ _ _ _ _ _)
   | (with_reducible exact ih2 _ _ _ _ _ _ _ _ _ _ _ _ _ _ _ _ _)
   | (with_reducible exact ih3 _ _ _ _ _ _ _ _ _ _ _ _ _ _ _)
   | (with_reducible exact barscanlaw43_equal.mono _ _ _ _ _ _ _)
   | (with_reducible exact barscanlaw43_examples.mono _)
   | (with_reducible exact printing_Blur.mono _ _ _ _ _)
   | (with_reducible exact printing_Print.mono _ _ _ _ _ _ _ _)
   | (with_reducible exact raster_Gray.mono _ _ _ _)
   | (with_reducible exact raster_Turn.mono _ _ _ _ _)
   | (with_reducible exact LeO.refl _)
   | (with_reducible exact LeO.none _)
   | (with_reducible refine LeO.ite ?_ ?_)
   | (with_reducible refine LeO.bind ?_ (fun _ => ?_))
   | exact ih0 _ _ _ _ _ _ _ _ _ _
   | exact ih1 _ _ _ _ _ _ _ _ _ _ _ _ _ _ _ _
   | exact ih2 _ _ _ _ _ _ _ _ _ _ _ _ _ _ _ _ _
   | exact ih3 _ _ _ _ _ _ _ _ _ _ _ _ _ _ _
   | exact barscanlaw43_equal.mono _ _ _ _ _ _ _
   | exact barscanlaw43_examples.mono _
   | exact printing_Blur.mono _ _ _ _ _
   | exact printing_Print.mono _ _ _ _ _ _ _ _
   | exact raster_Gray.mono _ _ _ _
   | exact raster_Turn.mono _ _ _ _ _
   | exact LeO.none _
   | refine LeO.ite ?_ ?_
   | refine LeO.bind ?_ (fun _ => ?_)
theorem barscanlaw43_PrintingMeans.mono : ∀ a0 a1 a2 a3 a4 a5 k, LeO (barscanlaw43_PrintingMeans.f k a0 a1 a2 a3 a4 a5) (barscanlaw43_PrintingMeans.f (k + 1) a0 a1 a2 a3 a4 a5) := by
 intro a0 a1 a2 a3 a4 a5 k
 obtain ⟨ih0, ih1, ih2, ih3⟩ := barscanlaw43_PrintingMeans.mono_l k
 unfold barscanlaw43_PrintingMeans.f
 repeat' first
   | (with_reducible exact ih0 _ _ _ _ _ _ _ _ _ _)
   | (with_reducible exact ih1 _ _ _ _ _ _ _ _ _ _ _ _ _ _ _ _)
   | (with_reducible exact ih2 _ _ _ _ _ _ _ _ _ _ _ _ _ _ _ _ _)
   | (with_reducible exact ih3 _ _ _ _ _ _ _ _ _ _ _ _ _ _ _)
   | (with_reducible exact barscanlaw43_equal.mono _ _ _ _ _ _ _)
   | (with_reducible exact barscanlaw43_examples.mono _)
   | (with_reducible exact printing_Blur.mono _ _ _ _ _)
   | (with_reducible exact printing_Print.mono _ _ _ _ _ _ _ _)
   | (with_reducible exact raster_Gray.mono _ _ _ _)
   | (with_reducible exact raster_Turn.mono _ _ _ _ _)
   | (with_reducible exact LeO.refl _)
   | (with_reducible exact LeO.none _)
   | (with_reducible refine LeO.ite ?_ ?_)
   | (with_reducible refine LeO.bind ?_ (fun _ => ?_))
   | exact ih0 _ _ _ _ _ _ _ _ _ _
   | exact ih1 _ _ _ _ _ _ _ _ _ _ _ _ _ _ _ _
   | exact ih2 _ _ _ _ _ _ _ _ _ _ _ _ _ _ _ _ _
   | exact ih3 _ _ _ _ _ _ _ _ _ _ _ _ _ _ _
   | exact barscanlaw43_equal.mono _ _ _ _ _ _ _
   | exact barscanlaw43_examples.mono _
   | exact printing_Blur.mono _ _ _ _ _
   | exact printing_Print.mono _ _ _ _ _ _ _ _
   | exact raster_Gray.mono _ _ _ _
   | exact raster_Turn.mono _ _ _ _ _
   | exact LeO.none _
   | refine LeO.ite ?_ ?_
   | refine LeO.bind ?_ (fun _ => ?_)
def barscanlaw43_PrintingMeans.T4 : Bool × List (List Nat × List Nat) := (true, [([], []), ([0], [0]), ([], []), ([2], [2]), ([], []), ([], []), ([5], [5]), ([6], [6]), ([4, 7], [4, 7]), ([1, 3, 8], [1, 3, 8]), ([], []), ([10, 9, 0, 1, 2, 3, 4, 5, 6, 7, 8, 9, 10], [9, 10])])
def barscanlaw43_PrintingMeans.B4 : List Nat := [0, 1, 0, 4, 0, 0, 32, 96, 240, 511, 0, 2047]
theorem barscanlaw43_PrintingMeans.tab4 : rtab .any (opsOf Try.f4 4) = barscanlaw43_PrintingMeans.T4 := by kernel_rfl
theorem barscanlaw43_PrintingMeans.bits4 : waitsOk barscanlaw43_PrintingMeans.T4.2 barscanlaw43_PrintingMeans.B4 = true := by kernel_rfl
def barscanlaw43_PrintingMeans.T15 : Bool × List (List Nat × List Nat) := (true, [([], []), ([], []), ([1], [1]), ([0, 2], [0, 2]), ([], []), ([], []), ([5], [5]), ([4, 6], [4, 6]), ([3, 0, 1, 2, 3], [3]), ([7, 8, 0, 1, 2, 3, 4, 5, 6, 7, 8], [7])])
def barscanlaw43_PrintingMeans.B15 : List Nat := [0, 0, 2, 7, 0, 0, 32, 112, 15, 511]
theorem barscanlaw43_PrintingMeans.tab15 : rtab .any (opsOf Try.f4 15) = barscanlaw43_PrintingMeans.T15 := by kernel_rfl
theorem barscanlaw43_PrintingMeans.bits15 : waitsOk barscanlaw43_PrintingMeans.T15.2 barscanlaw43_PrintingMeans.B15 = true := by kernel_rfl
set_option maxHeartbeats 8000000 in
set_option maxRecDepth 100000 in
theorem barscanlaw43_PrintingMeans.calls (k : Nat) (a0_0 : Int) (a0_1 : Int) (A0_2 : Option Addr) (c0_2 : Nat) (l0_2 : List Bool) (A1 : Option Addr) (c1 : Nat) (l1 : List Int) (a2 : Int) (a3 : Int) (r : Bool) (w : World) (hr0_2 : Kd.C Kd.bool w A0_2 l0_2.length l0_2) (hc0_2 : l0_2.length ≤ c0_2) (hr1 : Kd.C (Kd.int .u8) w A1 l1.length l1) (hc1 : l1.length ≤ c1) (h : barscanlaw43_PrintingMeans.f k a0_0 a0_1 l0_2 l1 a2 a3 = some r) :
  Calls Try.prog 4 #[.agg #[.int .i64 a0_0, .int .i64 a0_1, .slice A0_2 l0_2.length c0_2], .slice A1 l1.length c1, .int .u8 a2, .int .i64 a3] w fun e w' => e = .returned (.bool r) ∧ Below w.heap.size w w' := by
 have hu33 := Try.underlying33
 have hu24 := Try.underlying24
 have hu38 := Try.underlying38
 have HR0_2 := Aside0.mk hr0_2
 have HC0_2 := Aside0.mk hc0_2
 clear hr0_2 hc0_2
 have HR1 := Aside0.mk hr1
 have HC1 := Aside0.mk hc1
 clear hr1 hc1
 have HB := Aside0.mk (Below.refl w.heap.size w)
 have H : ((barscanlaw43_valid.f a0_0 a0_1 l0_2 1000).bind fun t289 => (if t289 = true then (if (l1.length : Int) < (l0_2.length : Int) then ((barscanlaw43_examples.f k).bind fun t290 => (some t290)) else (if 0 ≤ (l0_2.length : Int) then (if (l0_2.length : Int) ≤ (l1.length : Int) then ((some (l1.take ((l0_2.length : Int) : Int).toNat : List Int)).bind fun y291 => ((printing_Blur.f k a0_0 a0_1 y291 0).bind fun bt296 => ((printing_Blur.f k a0_0 a0_1 y291 (wrap64 (Int.tmod a2 8))).bind fun bt303 => ((printing_Print.f k a0_0 a0_1 l0_2 a3 0 0 0).bind fun bt310 => ((raster_Turn.f k a0_0 a0_1 l0_2 a3).bind fun bt317 => ((raster_Gray.f k bt317.1 bt317.2.1 bt317.2.2.1).bind fun bt324 => (if bt296.2.2.2 = 0 then (if bt303.2.2.2 = 0 then (if bt310.2.2.2 = 0 then (if bt317.2.2.2 = 0 then (if bt324.2.2.2 = 0 then ((barscanlaw43_equal.f k bt296.1 bt296.2.1 bt296.2.2.1 a0_0 a0_1 y291).bind fun t331 => (if t331 = true then ((barscanlaw43_equal.f k bt310.1 bt310.2.1 bt310.2.2.1 bt324.1 bt324.2.1 bt324.2.2.1).bind fun t332 => (if t332 = true then (if (bt303.2.2.1.length : Int) = (y291.length : Int) then (barscanlaw43_PrintingMeans.l0 k (wrap64 (Int.tmod a2 8)) bt303.2.2.1 (bt303.2.2.1.length : Int) 0 a0_0 a0_1 l0_2 a0_0 a0_1 y291) else (none)) else (none))) else (none))) else (none)) else (none)) else (none)) else (none)) else (none)))))))) else (none)) else (none))) else ((barscanlaw43_examples.f k).bind fun t337 => (some t337)))) = some r := h
 clear h
 replace H := Option.bind_eq_some_iff.mp H
 obtain ⟨t289, A50, H⟩ := H
 replace H : (if t289 = true then (if (l1.length : Int) < (l0_2.length : Int) then ((barscanlaw43_examples.f k).bind fun t290 => (some t290)) else (if 0 ≤ (l0_2.length : Int) then (if (l0_2.length : Int) ≤ (l1.length : Int) then ((some (l1.take ((l0_2.length : Int) : Int).toNat : List Int)).bind fun y291 => ((printing_Blur.f k a0_0 a0_1 y291 0).bind fun bt296 => ((printing_Blur.f k a0_0 a0_1 y291 (wrap64 (Int.tmod a2 8))).bind fun bt303 => ((printing_Print.f k a0_0 a0_1 l0_2 a3 0 0 0).bind fun bt310 => ((raster_Turn.f k a0_0 a0_1 l0_2 a3).bind fun bt317 => ((raster_Gray.f k bt317.1 bt317.2.1 bt317.2.2.1).bind fun bt324 => (if bt296.2.2.2 = 0 then (if bt303.2.2.2 = 0 then (if bt310.2.2.2 = 0 then (if bt317.2.2.2 = 0 then (if bt324.2.2.2 = 0 then ((barscanlaw43_equal.f k bt296.1 bt296.2.1 bt296.2.2.1 a0_0 a0_1 y291).bind fun t331 => (if t331 = true then ((barscanlaw43_equal.f k bt310.1 bt310.2.1 bt310.2.2.1 bt324.1 bt324.2.1 bt324.2.2.1).bind fun t332 => (if t332 = true then (if (bt303.2.2.1.length : Int) = (y291.length : Int) then (barscanlaw43_PrintingMeans.l0 k (wrap64 (Int.tmod a2 8)) bt303.2.2.1 (bt303.2.2.1.length : Int) 0 a0_0 a0_1 l0_2 a0_0 a0_1 y291) else (none)) else (none))) else (none))) else (none)) else (none)) else (none)) else (none)) else (none)))))))) else (none)) else (none))) else ((barscanlaw43_examples.f k).bind fun t337 => (some t337))) = some r := H
 have A5 := Aside0.mk A50
 clear A50
 by_cases c6 : t289 = true
 ·subst c6
  have H1 : (if (l1.length : Int) < (l0_2.length : Int) then ((barscanlaw43_examples.f k).bind fun t290 => (some t290)) else (if 0 ≤ (l0_2.length : Int) then (if (l0_2.length : Int) ≤ (l1.length : Int) then ((some (l1.take ((l0_2.length : Int) : Int).toNat : List Int)).bind fun y291 => ((printing_Blur.f k a0_0 a0_1 y291 0).bind fun bt296 => ((printing_Blur.f k a0_0 a0_1 y291 (wrap64 (Int.tmod a2 8))).bind fun bt303 => ((printing_Print.f k a0_0 a0_1 l0_2 a3 0 0 0).bind fun bt310 => ((raster_Turn.f k a0_0 a0_1 l0_2 a3).bind fun bt317 => ((raster_Gray.f k bt317.1 bt317.2.1 bt317.2.2.1).bind fun bt324 => (if bt296.2.2.2 = 0 then (if bt303.2.2.2 = 0 then (if bt310.2.2.2 = 0 then (if bt317.2.2.2 = 0 then (if bt324.2.2.2 = 0 then ((barscanlaw43_equal.f k bt296.1 bt296.2.1 bt296.2.2.1 a0_0 a0_1 y291).bind fun t331 => (if t331 = true then ((barscanlaw43_equal.f k bt310.1 bt310.2.1 bt310.2.2.1 bt324.1 bt324.2.1 bt324.2.2.1).bind fun t332 => (if t332 = true then (if (bt303.2.2.1.length : Int) = (y291.length : Int) then (barscanlaw43_PrintingMeans.l0 k (wrap64 (Int.tmod a2 8)) bt303.2.2.1 (bt303.2.2.1.length : Int) 0 a0_0 a0_1 l0_2 a0_0 a0_1 y291) else (none)) else (none))) else (none))) else (none)) else (none)) else (none)) else (none)) else (none)))))))) else (none)) else (none))) = some r := by rw [if_pos rfl] at H; exact H
  clear H
  have H := H1
  clear H1
  by_cases c7 : (l1.length : Int) < (l0_2.length : Int)
  ·rw [if_pos c7] at H
   have c7b0 : decide ((l1.length : Int) < (l0_2.length : Int)) = true := decide_eq_true c7
   have c7b1 : decide (l1.length < l0_2.length) = true := decide_eq_true (Int.ofNat_lt.mp c7)
   clear c7
   replace H := Option.bind_eq_some_iff.mp H
   obtain ⟨t290, A80, H⟩ := H
   replace H : (some t290) = some r := H
   have A8 := Aside0.mk A80
   clear A80
   obtain rfl := Option.some.inj H
   go_enter Try.func4, Try.ntmps4
   go_wp2_with (first | ((with_reducible refine gate_dst (N := 4) rfl ?_); (try (refine gate_guard (by rfl) ?_; dsimp only)); refine box_event ?hg (N := 4) ?hd (cs := #[.int .i64 a0_0, .int .i64 a0_1, .slice A0_2 l0_2.length c0_2]) (t := 33) ?hr ?_; (case hd => rfl); (case hg => rfl); (case hr => first | (go_simp; done) | (go_simp; rfl)); intro gb288 hg w9 hbox hb; have n0_ := Aside0.mk (below_step (hb0 HB) hb); have n1_ := Aside0.mk (hbox); have n2_ := Aside0.mk ((by rw [hg]; exact (below_size (hb0 HB)) : w.heap.size ≤ gb288)); have n3_ := Aside0.mk ((by rw [hg]; exact (below_size (hb0 HB)) : w.heap.size ≤ gb288)); clear HB; have HB := n0_; have BK288 := n1_; have GW288 := n2_; have GE288 := n3_; clear n0_ n1_ n2_ n3_; clear hb hbox hg; have hcz10_0 : w9.cell? ⟨gb288, 0, none⟩ = some (.int .i64 a0_0) := (blk_cell BK288.out 0).trans rfl; have hcz10_1 : w9.cell? ⟨gb288, 1, none⟩ = some (.int .i64 a0_1) := (blk_cell BK288.out 1).trans rfl; have hcz10_2 : w9.cell? ⟨gb288, 2, none⟩ = some (.slice A0_2 l0_2.length c0_2) := (blk_cell BK288.out 2).trans rfl; have hfz10_0 := blk_frozen BK288.out 0; have hfz10_1 := blk_frozen BK288.out 1; have hfz10_2 := blk_frozen BK288.out 2) | ((with_reducible refine gate_callee (f := 14) rfl ?_); refine goesL_ (some 30) rfl rfl Try.func14 (by kernel_rfl) rfl #[.agg #[.int .i64 a0_0, .int .i64 a0_1, .slice A0_2 l0_2.length c0_2], .int .i64 1000] rfl mapx ?_; (with_reducible refine (barscanlaw43_valid.calls a0_0 a0_1 _ _ l0_2 1000 true _ ?side1 ?side2 A5.out).mono ?_); (case side1 => repeat (first | exact (Kd.C_below HR0_2.out HB.out) | (with_reducible refine Kd.C_alloc ?_ _) | (with_reducible refine Kd.C_drewN ?_ _) | (with_reducible refine Kd.C_drew ?_))); (case side2 => exact HC0_2.out); rintro e w11 ⟨rfl, hb⟩; refine ⟨_, rfl, ?_⟩; have n0_ := Aside0.mk (blk_below (bkx BK288) hb); have n1_ := Aside0.mk (below_step (hb1 HB GE288) hb); clear BK288; clear HB; have BK288 := n0_; have HB := n1_; clear n0_ n1_; (try clear hb); (try clear hb2); (try clear hk); (try clear hi); have hcz12_0 : w11.cell? ⟨gb288, 0, none⟩ = some (.int .i64 a0_0) := (blk_cell BK288.out 0).trans rfl; have hcz12_1 : w11.cell? ⟨gb288, 1, none⟩ = some (.int .i64 a0_1) := (blk_cell BK288.out 1).trans rfl; have hcz12_2 : w11.cell? ⟨gb288, 2, none⟩ = some (.slice A0_2 l0_2.length c0_2) := (blk_cell BK288.out 2).trans rfl; have hfz12_0 := blk_frozen BK288.out 0; have hfz12_1 := blk_frozen BK288.out 1; have hfz12_2 := blk_frozen BK288.out 2) | ((with_reducible refine gate_callee (f := 10) rfl ?_); refine goesL_ (some 40) rfl rfl Try.func10 (by kernel_rfl) rfl #[] rfl mapx ?_; (with_reducible refine (barscanlaw43_examples.calls k  t290 _ A8.out).mono ?_); rintro e w13 ⟨rfl, hb⟩; refine ⟨_, rfl, ?_⟩; have n0_ := Aside0.mk (blk_below (bkx BK288) hb); have n1_ := Aside0.mk (below_step (hb1 HB GE288) hb); clear BK288; clear HB; have BK288 := n0_; have HB := n1_; clear n0_ n1_; (try clear hb); (try clear hb2); (try clear hk); (try clear hi)))
   go_ret
   exact ⟨by first | rfl | (simp [errW_none, errW_some] <;> rfl) | (simp [*, errW_none, errW_some] <;> rfl), by repeat (first | (with_reducible first | exact HB.out | apply below_alloc | apply pw_below_drewN | apply below_drew1 | refine below_set ?_ GE288.out) | exact HB.out)⟩
  ·rw [if_neg c7] at H
   have c7b0 : decide ((l1.length : Int) < (l0_2.length : Int)) = false := decide_eq_false c7
   have c7b1 : decide (l1.length < l0_2.length) = false := decide_eq_false (fun h => c7 (Int.ofNat_lt.mpr h))
   clear c7
   by_cases c14 : 0 ≤ (l0_2.length : Int)
   ·rw [if_pos c14] at H
    have c14b0 := eq_true c14
    have c14b1 : decide (0 ≤ (l0_2.length : Int)) = true := decide_eq_true c14
    clear c14
    by_cases c15 : (l0_2.length : Int) ≤ (l1.length : Int)
    ·rw [if_pos c15] at H
     have c15b0 := eq_true c15
     have c15b1 : decide ((l0_2.length : Int) ≤ (l1.length : Int)) = true := decide_eq_true c15
     clear c15
     obtain ⟨y291, hy291⟩ : ∃ y_ : List Int, y_ = (l1.take ((l0_2.length : Int) : Int).toNat) := ⟨_, rfl⟩
     replace H : ((printing_Blur.f k a0_0 a0_1 y291 0).bind fun bt296 => ((printing_Blur.f k a0_0 a0_1 y291 (wrap64 (Int.tmod a2 8))).bind fun bt303 => ((printing_Print.f k a0_0 a0_1 l0_2 a3 0 0 0).bind fun bt310 => ((raster_Turn.f k a0_0 a0_1 l0_2 a3).bind fun bt317 => ((raster_Gray.f k bt317.1 bt317.2.1 bt317.2.2.1).bind fun bt324 => (if bt296.2.2.2 = 0 then (if bt303.2.2.2 = 0 then (if bt310.2.2.2 = 0 then (if bt317.2.2.2 = 0 then (if bt324.2.2.2 = 0 then ((barscanlaw43_equal.f k bt296.1 bt296.2.1 bt296.2.2.1 a0_0 a0_1 y291).bind fun t331 => (if t331 = true then ((barscanlaw43_equal.f k bt310.1 bt310.2.1 bt310.2.2.1 bt324.1 bt324.2.1 bt324.2.2.1).bind fun t332 => (if t332 = true then (if (bt303.2.2.1.length : Int) = (y291.length : Int) then (barscanlaw43_PrintingMeans.l0 k (wrap64 (Int.tmod a2 8)) bt303.2.2.1 (bt303.2.2.1.length : Int) 0 a0_0 a0_1 l0_2 a0_0 a0_1 y291) else (none)) else (none))) else (none))) else (none)) else (none)) else (none)) else (none)) else (none))))))) = some r := by first | (rw [hy291]; with_reducible exact H) | (have H2_ := (Option.bind_some _ _).symm.trans H; rw [hy291]; with_reducible exact H2_) | (have H2_ := (Option.bind_some _ _).symm.trans H; with_reducible exact H2_) | with_reducible exact H | (rw [hy291]; exact H) | exact H
     have Ny291 := Aside0.mk hy291
     clear hy291
     replace H := Option.bind_eq_some_iff.mp H
     obtain ⟨⟨t296, t297, t298, t301⟩, A160, H⟩ := H
     replace H : ((printing_Blur.f k a0_0 a0_1 y291 (wrap64 (Int.tmod a2 8))).bind fun bt303 => ((printing_Print.f k a0_0 a0_1 l0_2 a3 0 0 0).bind fun bt310 => ((raster_Turn.f k a0_0 a0_1 l0_2 a3).bind fun bt317 => ((raster_Gray.f k bt317.1 bt317.2.1 bt317.2.2.1).bind fun bt324 => (if t301 = 0 then (if bt303.2.2.2 = 0 then (if bt310.2.2.2 = 0 then (if bt317.2.2.2 = 0 then (if bt324.2.2.2 = 0 then ((barscanlaw43_equal.f k t296 t297 t298 a0_0 a0_1 y291).bind fun t331 => (if t331 = true then ((barscanlaw43_equal.f k bt310.1 bt310.2.1 bt310.2.2.1 bt324.1 bt324.2.1 bt324.2.2.1).bind fun t332 => (if t332 = true then (if (bt303.2.2.1.length : Int) = (y291.length : Int) then (barscanlaw43_PrintingMeans.l0 k (wrap64 (Int.tmod a2 8)) bt303.2.2.1 (bt303.2.2.1.length : Int) 0 a0_0 a0_1 l0_2 a0_0 a0_1 y291) else (none)) else (none))) else (none))) else (none)) else (none)) else (none)) else (none)) else (none)))))) = some r := H
     have A16 := Aside0.mk A160
     clear A160
     replace H := Option.bind_eq_some_iff.mp H
     obtain ⟨⟨t303, t304, t305, t308⟩, A170, H⟩ := H
     replace H : ((printing_Print.f k a0_0 a0_1 l0_2 a3 0 0 0).bind fun bt310 => ((raster_Turn.f k a0_0 a0_1 l0_2 a3).bind fun bt317 => ((raster_Gray.f k bt317.1 bt317.2.1 bt317.2.2.1).bind fun bt324 => (if t301 = 0 then (if t308 = 0 then (if bt310.2.2.2 = 0 then (if bt317.2.2.2 = 0 then (if bt324.2.2.2 = 0 then ((barscanlaw43_equal.f k t296 t297 t298 a0_0 a0_1 y291).bind fun t331 => (if t331 = true then ((barscanlaw43_equal.f k bt310.1 bt310.2.1 bt310.2.2.1 bt324.1 bt324.2.1 bt324.2.2.1).bind fun t332 => (if t332 = true then (if (t305.length : Int) = (y291.length : Int) then (barscanlaw43_PrintingMeans.l0 k (wrap64 (Int.tmod a2 8)) t305 (t305.length : Int) 0 a0_0 a0_1 l0_2 a0_0 a0_1 y291) else (none)) else (none))) else (none))) else (none)) else (none)) else (none)) else (none)) else (none))))) = some r := H
     have A17 := Aside0.mk A170
     clear A170
     replace H := Option.bind_eq_some_iff.mp H
     obtain ⟨⟨t310, t311, t312, t315⟩, A180, H⟩ := H
     replace H : ((raster_Turn.f k a0_0 a0_1 l0_2 a3).bind fun bt317 => ((raster_Gray.f k bt317.1 bt317.2.1 bt317.2.2.1).bind fun bt324 => (if t301 = 0 then (if t308 = 0 then (if t315 = 0 then (if bt317.2.2.2 = 0 then (if bt324.2.2.2 = 0 then ((barscanlaw43_equal.f k t296 t297 t298 a0_0 a0_1 y291).bind fun t331 => (if t331 = true then ((barscanlaw43_equal.f k t310 t311 t312 bt324.1 bt324.2.1 bt324.2.2.1).bind fun t332 => (if t332 = true then (if (t305.length : Int) = (y291.length : Int) then (barscanlaw43_PrintingMeans.l0 k (wrap64 (Int.tmod a2 8)) t305 (t305.length : Int) 0 a0_0 a0_1 l0_2 a0_0 a0_1 y291) else (none)) else (none))) else (none))) else (none)) else (none)) else (none)) else (none)) else (none)))) = some r := H
     have A18 := Aside0.mk A180
     clear A180
     replace H := Option.bind_eq_some_iff.mp H
     obtain ⟨⟨t317, t318, t319, t322⟩, A190, H⟩ := H
     replace H : ((raster_Gray.f k t317 t318 t319).bind fun bt324 => (if t301 = 0 then (if t308 = 0 then (if t315 = 0 then (if t322 = 0 then (if bt324.2.2.2 = 0 then ((barscanlaw43_equal.f k t296 t297 t298 a0_0 a0_1 y291).bind fun t331 => (if t331 = true then ((barscanlaw43_equal.f k t310 t311 t312 bt324.1 bt324.2.1 bt324.2.2.1).bind fun t332 => (if t332 = true then (if (t305.length : Int) = (y291.length : Int) then (barscanlaw43_PrintingMeans.l0 k (wrap64 (Int.tmod a2 8)) t305 (t305.length : Int) 0 a0_0 a0_1 l0_2 a0_0 a0_1 y291) else (none)) else (none))) else (none))) else (none)) else (none)) else (none)) else (none)) else (none))) = some r := H
     have A19 := Aside0.mk A190
     clear A190
     replace H := Option.bind_eq_some_iff.mp H
     obtain ⟨⟨t324, t325, t326, t329⟩, A200, H⟩ := H
     replace H : (if t301 = 0 then (if t308 = 0 then (if t315 = 0 then (if t322 = 0 then (if t329 = 0 then ((barscanlaw43_equal.f k t296 t297 t298 a0_0 a0_1 y291).bind fun t331 => (if t331 = true then ((barscanlaw43_equal.f k t310 t311 t312 t324 t325 t326).bind fun t332 => (if t332 = true then (if (t305.length : Int) = (y291.length : Int) then (barscanlaw43_PrintingMeans.l0 k (wrap64 (Int.tmod a2 8)) t305 (t305.length : Int) 0 a0_0 a0_1 l0_2 a0_0 a0_1 y291) else (none)) else (none))) else (none))) else (none)) else (none)) else (none)) else (none)) else (none)) = some r := H
     have A20 := Aside0.mk A200
     clear A200
     by_cases c21 : t301 = 0
     ·rw [if_pos c21] at H
      have c21b0 : (t301 == 0) = true := beq_iff_eq.mpr c21
      have c21b1 : (t301 != 0) = false := bne_eq_false_iff_eq.mpr c21
      clear c21
      by_cases c22 : t308 = 0
      ·rw [if_pos c22] at H
       have c22b0 : (t308 == 0) = true := beq_iff_eq.mpr c22
       have c22b1 : (t308 != 0) = false := bne_eq_false_iff_eq.mpr c22
       clear c22
       by_cases c23 : t315 = 0
       ·rw [if_pos c23] at H
        have c23b0 : (t315 == 0) = true := beq_iff_eq.mpr c23
        have c23b1 : (t315 != 0) = false := bne_eq_false_iff_eq.mpr c23
        clear c23
        by_cases c24 : t322 = 0
        ·rw [if_pos c24] at H
         have c24b0 : (t322 == 0) = true := beq_iff_eq.mpr c24
         have c24b1 : (t322 != 0) = false := bne_eq_false_iff_eq.mpr c24
         clear c24
         by_cases c25 : t329 = 0
         ·rw [if_pos c25] at H
          have c25b0 : (t329 == 0) = true := beq_iff_eq.mpr c25
          have c25b1 : (t329 != 0) = false := bne_eq_false_iff_eq.mpr c25
          clear c25
          replace H := Option.bind_eq_some_iff.mp H
          obtain ⟨t331, A260, H⟩ := H
          replace H : (if t331 = true then ((barscanlaw43_equal.f k t310 t311 t312 t324 t325 t326).bind fun t332 => (if t332 = true then (if (t305.length : Int) = (y291.length : Int) then (barscanlaw43_PrintingMeans.l0 k (wrap64 (Int.tmod a2 8)) t305 (t305.length : Int) 0 a0_0 a0_1 l0_2 a0_0 a0_1 y291) else (none)) else (none))) else (none)) = some r := H
          have A26 := Aside0.mk A260
          clear A260
          by_cases c27 : t331 = true
          ·subst c27
           have H1 : ((barscanlaw43_equal.f k t310 t311 t312 t324 t325 t326).bind fun t332 => (if t332 = true then (if (t305.length : Int) = (y291.length : Int) then (barscanlaw43_PrintingMeans.l0 k (wrap64 (Int.tmod a2 8)) t305 (t305.length : Int) 0 a0_0 a0_1 l0_2 a0_0 a0_1 y291) else (none)) else (none))) = some r := by rw [if_pos rfl] at H; exact H
           clear H
           have H := H1
           clear H1
           replace H := Option.bind_eq_some_iff.mp H
           obtain ⟨t332, A280, H⟩ := H
           replace H : (if t332 = true then (if (t305.length : Int) = (y291.length : Int) then (barscanlaw43_PrintingMeans.l0 k (wrap64 (Int.tmod a2 8)) t305 (t305.length : Int) 0 a0_0 a0_1 l0_2 a0_0 a0_1 y291) else (none)) else (none)) = some r := H
           have A28 := Aside0.mk A280
           clear A280
           by_cases c29 : t332 = true
           ·subst c29
            have H1 : (if (t305.length : Int) = (y291.length : Int) then (barscanlaw43_PrintingMeans.l0 k (wrap64 (Int.tmod a2 8)) t305 (t305.length : Int) 0 a0_0 a0_1 l0_2 a0_0 a0_1 y291) else (none)) = some r := by rw [if_pos rfl] at H; exact H
            clear H
            have H := H1
            clear H1
            by_cases c30 : (t305.length : Int) = (y291.length : Int)
            ·rw [if_pos c30] at H
             have c30b0 : ((t305.length : Int) == (y291.length : Int)) = true := beq_iff_eq.mpr c30
             have c30b1 : ((t305.length : Int) != (y291.length : Int)) = false := bne_eq_false_iff_eq.mpr c30
             have c30b2 : (t305.length == y291.length) = true := by first | simpa using c30 | (simp at c30 ⊢; omega)
             clear c30
             have H' := Aside0.mk H
             clear H
             go_enter Try.func4, Try.ntmps4
             try go_wp2_with (first | ((with_reducible refine gate_dst (N := 4) rfl ?_); (try (refine gate_guard (by rfl) ?_; dsimp only)); refine box_event ?hg (N := 4) ?hd (cs := #[.int .i64 a0_0, .int .i64 a0_1, .slice A0_2 l0_2.length c0_2]) (t := 33) ?hr ?_; (case hd => rfl); (case hg => rfl); (case hr => first | (go_simp; done) | (go_simp; rfl)); intro gb288 hg w31 hbox hb; have n0_ := Aside0.mk (below_step (hb0 HB) hb); have n1_ := Aside0.mk (hbox); have n2_ := Aside0.mk ((by rw [hg]; exact (below_size (hb0 HB)) : w.heap.size ≤ gb288)); have n3_ := Aside0.mk ((by rw [hg]; exact (below_size (hb0 HB)) : w.heap.size ≤ gb288)); clear HB; have HB := n0_; have BK288 := n1_; have GW288 := n2_; have GE288 := n3_; clear n0_ n1_ n2_ n3_; clear hb hbox hg; have hcz32_0 : w31.cell? ⟨gb288, 0, none⟩ = some (.int .i64 a0_0) := (blk_cell BK288.out 0).trans rfl; have hcz32_1 : w31.cell? ⟨gb288, 1, none⟩ = some (.int .i64 a0_1) := (blk_cell BK288.out 1).trans rfl; have hcz32_2 : w31.cell? ⟨gb288, 2, none⟩ = some (.slice A0_2 l0_2.length c0_2) := (blk_cell BK288.out 2).trans rfl; have hfz32_0 := blk_frozen BK288.out 0; have hfz32_1 := blk_frozen BK288.out 1; have hfz32_2 := blk_frozen BK288.out 2) | ((with_reducible refine gate_callee (f := 14) rfl ?_); refine goesL_ (some 30) rfl rfl Try.func14 (by kernel_rfl) rfl #[.agg #[.int .i64 a0_0, .int .i64 a0_1, .slice A0_2 l0_2.length c0_2], .int .i64 1000] rfl mapx ?_; (with_reducible refine (barscanlaw43_valid.calls a0_0 a0_1 _ _ l0_2 1000 true _ ?side1 ?side2 A5.out).mono ?_); (case side1 => repeat (first | exact (Kd.C_below HR0_2.out HB.out) | (with_reducible refine Kd.C_alloc ?_ _) | (with_reducible refine Kd.C_drewN ?_ _) | (with_reducible refine Kd.C_drew ?_))); (case side2 => exact HC0_2.out); rintro e w33 ⟨rfl, hb⟩; refine ⟨_, rfl, ?_⟩; have n0_ := Aside0.mk (blk_below (bkx BK288) hb); have n1_ := Aside0.mk (below_step (hb1 HB GE288) hb); clear BK288; clear HB; have BK288 := n0_; have HB := n1_; clear n0_ n1_; (try clear hb); (try clear hb2); (try clear hk); (try clear hi); have hcz34_0 : w33.cell? ⟨gb288, 0, none⟩ = some (.int .i64 a0_0) := (blk_cell BK288.out 0).trans rfl; have hcz34_1 : w33.cell? ⟨gb288, 1, none⟩ = some (.int .i64 a0_1) := (blk_cell BK288.out 1).trans rfl; have hcz34_2 : w33.cell? ⟨gb288, 2, none⟩ = some (.slice A0_2 l0_2.length c0_2) := (blk_cell BK288.out 2).trans rfl; have hfz34_0 := blk_frozen BK288.out 0; have hfz34_1 := blk_frozen BK288.out 1; have hfz34_2 := blk_frozen BK288.out 2))
             have n0_ := Aside0.mk (blk_drew BK288.out)
             have n1_ := Aside0.mk (below_drew1 HB.out)
             clear BK288
             clear HB
             have BK288 := n0_
             have HB := n1_
             clear n0_ n1_
             have q36 : ((l0_2.length : Int) : Int) ≤ ((l1.length : Int) : Int) := of_decide_eq_true (by first | (with_reducible assumption) | assumption)
             obtain ⟨i036, hi036, _, hsz36, _⟩ := info_parts info5
             have hroom36 : l1.length ≤ c1 := HC1.out
             have hC36 : Kd.C (Kd.int .u8) _ A1 l1.length l1 := HR1.out
             have hcut36 := cut_to (P := Try.prog) 22 5 .i64 Try.underlying22 hi036 A1 l1.length c1 (l0_2.length : Int) (of_decide_eq_true (by first | (with_reducible assumption) | assumption)) q36 hroom36
             have hr36 := Kd.C_take (m := ((l0_2.length : Int) : Int).toNat) hC36 (by omega)
             have hy36 : y291.length = ((l0_2.length : Int) : Int).toNat := (by rw [Ny291.out, List.length_take]; omega)
             rw [← Ny291.out] at hr36
             rw [← hy36] at hcut36
             have HR294 := Aside0.mk hr36
             have HC294 := Aside0.mk (show y291.length ≤ c1 from by omega)
             clear hr36 hC36 hroom36 hi036 hsz36
             have KY36 := Aside0.mk hy36
             clear hy36
             replace q36 := eq_true q36
             refine start_ (n := 12) (S := fun w' => w'.cell? ⟨gb288, 0, none⟩ = some (.int .i64 a0_0) ∧ w'.cell? ⟨gb288, 1, none⟩ = some (.int .i64 a0_1) ∧ w'.cell? ⟨gb288, 2, none⟩ = some (.slice A0_2 l0_2.length c0_2)) (ds := []) (bA 12 0) (by kernel_rfl) rfl rfl ⟨(blk_cell BK288.out 0).trans rfl, (blk_cell BK288.out 1).trans rfl, (blk_cell BK288.out 2).trans rfl⟩ (fun hHeld => ?_); refine with_tabW barscanlaw43_PrintingMeans.tab4 barscanlaw43_PrintingMeans.bits4 (fun HT_ HW_ => ?_)
             generalize w33.drew = w35 at BK288 HB HR294 hHeld ⊢
             refine pt HT_ 0 44 ?_
             refine pt HT_ 2 46 ?_
             refine pt HT_ 4 48 ?_
             refine pt HT_ 5 49 ?_
             refine tk HT_ HW_ hHeld 1 45 ?_
             refine tk HT_ HW_ hHeld 3 47 ?_
             refine tk HT_ HW_ hHeld 6 50 ?_
             refine pt HT_ 7 51 ?_
             refine pt HT_ 8 52 ?_
             refine pt HT_ 9 53 ?_
             refine one_ (i := 10) (N := some 10) (bA 12 2047) rfl rfl (one_of HT_.out (by kernel_rfl)) (by decide) (fun K hK => ?_)
             refine box_step ?hg (N := 10) ?hd (cs := #[.int .i64 0, .int .i64 0, .slice none 0 0]) (t := 24) ?hr ?_; (case hd => rfl); (case hg => rfl); (case hr => first | (go_simp; done) | (go_simp; rfl))
             intro gb295 hg w37 hbox hb
             have n0_ := Aside0.mk (blk_below (bkx BK288) hb)
             have n1_ := Aside0.mk (below_step (hb1 HB GE288) hb)
             have n2_ := Aside0.mk (hbox)
             have n3_ := Aside0.mk ((by rw [hg]; exact (below_size (hb1 HB GE288)) : w.heap.size ≤ gb295))
             have n4_ := Aside0.mk ((by rw [hg]; exact (below_size (hb1 HB GE288)) : w.heap.size ≤ gb295))
             have n5_ := Aside0.mk (nel hg BK288 : gb288 ≠ gb295)
             have n6_ := Aside0.mk (neg hg BK288 : gb295 ≠ gb288)
             clear BK288
             clear HB
             have BK288 := n0_
             have HB := n1_
             have BK295 := n2_
             have GW295 := n3_
             have GE295 := n4_
             have NB288_295 := n5_
             have NB295_288 := n6_
             clear n0_ n1_ n2_ n3_ n4_ n5_ n6_
             clear hb hbox hg
             refine hK.out _ _ ⟨(blk_cell BK288.out 0).trans rfl, (blk_cell BK288.out 1).trans rfl, (blk_cell BK288.out 2).trans rfl⟩ (fun hHeld => ?_)
             clear hK K
             refine norm_ (a' := ?_) ?_ ?_
             rotate_left
             ·show Act.put _ (some 10) _ = _
              simp only [Act.put, List.setIfInBounds_toArray, List.set_cons_zero, List.set_cons_succ, i64_w, i32_w]
              rfl
             refine one_ (i := 11) (N := none) (bA 12 4095) rfl rfl (one_of HT_.out (by kernel_rfl)) (by decide) (fun K hK => ?_)
             have hs38 : w37.cell? ⟨gb295, 0, none⟩ = some (.int .i64 0) := (blk_cell BK295.out 0).trans rfl
             have hfs38 := blk_frozen BK295.out 0
             have hns38_0 := NB288_295.out
             have hms38_0 := NB295_288.out
             have hs39 : w37.cell? ⟨gb295, 1, none⟩ = some (.int .i64 0) := (blk_cell BK295.out 1).trans rfl
             have hfs39 := blk_frozen BK295.out 1
             have hns39_0 := NB288_295.out
             have hms39_0 := NB295_288.out
             have hs40 : w37.cell? ⟨gb295, 2, none⟩ = some (.slice none 0 0) := (blk_cell BK295.out 2).trans rfl
             have hfs40 := blk_frozen BK295.out 2
             have hns40_0 := NB288_295.out
             have hms40_0 := NB295_288.out
             refine skip_ (w1 := ?_) (by rfl) rfl ?_ ?_
             rotate_left
             ·go_simp
              rfl
             refine hK.out _ _ ⟨((cell_far (p := ⟨gb295, _, none⟩) NB288_295.out _).trans (((cell_far (p := ⟨gb295, _, none⟩) NB288_295.out _).trans (((cell_far (p := ⟨gb295, _, none⟩) NB288_295.out _).trans (hHeld.1)))))), ((cell_far (p := ⟨gb295, _, none⟩) NB288_295.out _).trans (((cell_far (p := ⟨gb295, _, none⟩) NB288_295.out _).trans (((cell_far (p := ⟨gb295, _, none⟩) NB288_295.out _).trans (hHeld.2.1)))))), ((cell_far (p := ⟨gb295, _, none⟩) NB288_295.out _).trans (((cell_far (p := ⟨gb295, _, none⟩) NB288_295.out _).trans (((cell_far (p := ⟨gb295, _, none⟩) NB288_295.out _).trans (hHeld.2.2))))))⟩ (fun hHeld => ?_)
             clear hK K
             refine done_ (done_of HT_.out (by kernel_rfl)) ?_
             have hnb41 := NB295_288.out
             have hnc41 := NB288_295.out
             have hcz42_0 : w37.cell? ⟨gb295, 0, none⟩ = some (.int .i64 0) := (blk_cell BK295.out 0).trans rfl
             have hcz42_1 : w37.cell? ⟨gb295, 1, none⟩ = some (.int .i64 0) := (blk_cell BK295.out 1).trans rfl
             have hcz42_2 : w37.cell? ⟨gb295, 2, none⟩ = some (.slice none 0 0) := (blk_cell BK295.out 2).trans rfl
             have hfz42_0 := blk_frozen BK295.out 0
             have hfz42_1 := blk_frozen BK295.out 1
             have hfz42_2 := blk_frozen BK295.out 2
             try go_wp2_with (first | ((with_reducible refine gate_callee (f := 11) rfl ?_); refine goesL_ (some 56) rfl rfl Try.func11 (by kernel_rfl) rfl #[.agg #[.int .i64 a0_0, .int .i64 a0_1, .slice A1 y291.length c1], .int .i64 0] rfl mapx ?_; (with_reducible refine (printing_Blur.calls k a0_0 a0_1 _ _ y291 0 t296 t297 t298 t301 _ ?side1 ?side2 A16.out).mono ?_); (case side1 => exact Kd.C_below HR294.out (hb2 HB GE288 GE295)); (case side2 => exact HC294.out); rintro e w43 ⟨v299, rfl, ho0, hb⟩; refine ⟨_, rfl, ?_⟩; have n0_ := Aside0.mk (Kd.R_lower ho0 (below_size (hb2 HB GE288 GE295))); have n1_ := Aside0.mk (blk_below (g := gb288) (o := .cells #[.int .i64 a0_0, .int .i64 a0_1, .slice A0_2 l0_2.length c0_2] 33 (0, 0)) (bky BK288 NB288_295) hb); have n2_ := Aside0.mk (blk_below (g := gb295) (o := .cells #[.int .i64 a0_0, .int .i64 a0_1, .slice A1 y291.length c1] 24 (0, 0)) (by refine bkt ?_; refine blk_put (cs := #[.int .i64 a0_0, .int .i64 a0_1, .slice none 0 0]) ?_ 2 _ rfl; refine bkt ?_; refine blk_put (cs := #[.int .i64 a0_0, .int .i64 0, .slice none 0 0]) ?_ 1 _ rfl; refine bkt ?_; refine blk_put (cs := #[.int .i64 0, .int .i64 0, .slice none 0 0]) ?_ 0 _ rfl; refine bkt ?_; exact BK295.out) hb); have n3_ := Aside0.mk (below_step (hb2 HB GE288 GE295) hb); clear BK288; clear BK295; clear HB; have HO300 := n0_; have BK288 := n1_; have BK295 := n2_; have HB := n3_; clear n0_ n1_ n2_ n3_; (try clear hb); (try clear hb2); (try clear hk); (try clear hi); (try clear ho0)) | ((with_reducible refine gate_dst (N := 11) rfl ?_); (try (refine gate_guard (by rfl) ?_; dsimp only)); refine box_event ?hg (N := 11) ?hd (cs := #[.int .i64 0, .int .i64 0, .slice none 0 0]) (t := 24) ?hr ?_; (case hd => rfl); (case hg => rfl); (case hr => first | (go_simp; done) | (go_simp; rfl)); intro gb302 hg w44 hbox hb; have n0_ := Aside0.mk (Kd.R_below (rkx HO300) hb); have n1_ := Aside0.mk (blk_below (bkx BK288) hb); have n2_ := Aside0.mk (blk_below (bkx BK295) hb); have n3_ := Aside0.mk (below_step (hb2 HB GE288 GE295) hb); have n4_ := Aside0.mk (hbox); have n5_ := Aside0.mk ((by rw [hg]; exact (below_size (hb2 HB GE288 GE295)) : w.heap.size ≤ gb302)); have n6_ := Aside0.mk ((by rw [hg]; exact (below_size (hb2 HB GE288 GE295)) : w.heap.size ≤ gb302)); have n7_ := Aside0.mk (nel hg BK288 : gb288 ≠ gb302); have n8_ := Aside0.mk (neg hg BK288 : gb302 ≠ gb288); have n9_ := Aside0.mk (nel hg BK295 : gb295 ≠ gb302); have n10_ := Aside0.mk (neg hg BK295 : gb302 ≠ gb295); clear HO300; clear BK288; clear BK295; clear HB; have HO300 := n0_; have BK288 := n1_; have BK295 := n2_; have HB := n3_; have BK302 := n4_; have GW302 := n5_; have GE302 := n6_; have NB288_302 := n7_; have NB302_288 := n8_; have NB295_302 := n9_; have NB302_295 := n10_; clear n0_ n1_ n2_ n3_ n4_ n5_ n6_ n7_ n8_ n9_ n10_; clear hb hbox hg; have hnb45 := NB302_288.out; have hnc45 := NB288_302.out; have hnb46 := NB302_295.out; have hnc46 := NB295_302.out; have hcz47_0 : w44.cell? ⟨gb302, 0, none⟩ = some (.int .i64 0) := (blk_cell BK302.out 0).trans rfl; have hcz47_1 : w44.cell? ⟨gb302, 1, none⟩ = some (.int .i64 0) := (blk_cell BK302.out 1).trans rfl; have hcz47_2 : w44.cell? ⟨gb302, 2, none⟩ = some (.slice none 0 0) := (blk_cell BK302.out 2).trans rfl; have hfz47_0 := blk_frozen BK302.out 0; have hfz47_1 := blk_frozen BK302.out 1; have hfz47_2 := blk_frozen BK302.out 2; obtain ⟨Ao48, co48, eo48⟩ := Kd.R_slice HO300.out; subst eo48; have hcz49_0 : w44.cell? ⟨gb295, 0, none⟩ = some (.int .i64 a0_0) := (blk_cell BK295.out 0).trans rfl; have hcz49_1 : w44.cell? ⟨gb295, 1, none⟩ = some (.int .i64 a0_1) := (blk_cell BK295.out 1).trans rfl; have hcz49_2 : w44.cell? ⟨gb295, 2, none⟩ = some (.slice A1 y291.length c1) := (blk_cell BK295.out 2).trans rfl; have hfz49_0 := blk_frozen BK295.out 0; have hfz49_1 := blk_frozen BK295.out 1; have hfz49_2 := blk_frozen BK295.out 2) | ((with_reducible refine gate_callee (f := 11) rfl ?_); refine goesL_ (some 62) rfl rfl Try.func11 (by kernel_rfl) rfl #[.agg #[.int .i64 a0_0, .int .i64 a0_1, .slice A1 y291.length c1], .int .i64 (wrap64 (Int.tmod a2 8))] rfl mapx ?_; (with_reducible refine (printing_Blur.calls k a0_0 a0_1 _ _ y291 (wrap64 (Int.tmod a2 8)) t303 t304 t305 t308 _ ?side1 ?side2 A17.out).mono ?_); (case side1 => exact Kd.C_below HR294.out (hb3 HB GE288 GE295 GE302)); (case side2 => exact HC294.out); rintro e w50 ⟨v306, rfl, ho0, hb⟩; refine ⟨_, rfl, ?_⟩; have n0_ := Aside0.mk (Kd.R_elder' (by refine rkt ?_; exact (far3 HO300 BK302)) (Kd.R_base ho0) hb); have n1_ := Aside0.mk (Kd.R_lower (Kd.R_new' ho0 (Kd.R_lt (by refine rkt ?_; exact (far3 HO300 BK302)))) (below_size (hb3 HB GE288 GE295 GE302))); have n2_ := Aside0.mk (blk_below (g := gb288) (o := .cells #[.int .i64 a0_0, .int .i64 a0_1, .slice A0_2 l0_2.length c0_2] 33 (0, 0)) (bky BK288 NB288_302) hb); have n3_ := Aside0.mk (blk_below (g := gb295) (o := .cells #[.int .i64 a0_0, .int .i64 a0_1, .slice A1 y291.length c1] 24 (0, 0)) (bky BK295 NB295_302) hb); have n4_ := Aside0.mk (blk_below (g := gb302) (o := .cells #[.int .i64 t296, .int .i64 t297, .slice Ao48 t298.length co48] 24 (0, 0)) (by refine bkt ?_; refine blk_put (cs := #[.int .i64 t296, .int .i64 t297, .slice none 0 0]) ?_ 2 _ rfl; refine bkt ?_; refine blk_put (cs := #[.int .i64 t296, .int .i64 0, .slice none 0 0]) ?_ 1 _ rfl; refine bkt ?_; refine blk_put (cs := #[.int .i64 0, .int .i64 0, .slice none 0 0]) ?_ 0 _ rfl; refine bkt ?_; exact BK302.out) hb); have n5_ := Aside0.mk (below_step (hb3 HB GE288 GE295 GE302) hb); clear HO300; clear BK288; clear BK295; clear BK302; clear HB; have HO300 := n0_; have HO307 := n1_; have BK288 := n2_; have BK295 := n3_; have BK302 := n4_; have HB := n5_; clear n0_ n1_ n2_ n3_ n4_ n5_; (try clear hb); (try clear hb2); (try clear hk); (try clear hi); (try clear ho0)) | ((with_reducible refine gate_dst (N := 13) rfl ?_); (try (refine gate_guard (by rfl) ?_; dsimp only)); refine box_event ?hg (N := 13) ?hd (cs := #[.int .i64 0, .int .i64 0, .slice none 0 0]) (t := 24) ?hr ?_; (case hd => rfl); (case hg => rfl); (case hr => first | (go_simp; done) | (go_simp; rfl)); intro gb309 hg w51 hbox hb; have n0_ := Aside0.mk (Kd.R_below (rkx HO300) hb); have n1_ := Aside0.mk (Kd.R_below (rkx HO307) hb); have n2_ := Aside0.mk (blk_below (bkx BK288) hb); have n3_ := Aside0.mk (blk_below (bkx BK295) hb); have n4_ := Aside0.mk (blk_below (bkx BK302) hb); have n5_ := Aside0.mk (below_step (hb3 HB GE288 GE295 GE302) hb); have n6_ := Aside0.mk (hbox); have n7_ := Aside0.mk ((by rw [hg]; exact (below_size (hb3 HB GE288 GE295 GE302)) : w.heap.size ≤ gb309)); have n8_ := Aside0.mk ((by rw [hg]; exact (below_size (hb3 HB GE288 GE295 GE302)) : w.heap.size ≤ gb309)); have n9_ := Aside0.mk (nel hg BK288 : gb288 ≠ gb309); have n10_ := Aside0.mk (neg hg BK288 : gb309 ≠ gb288); have n11_ := Aside0.mk (nel hg BK295 : gb295 ≠ gb309); have n12_ := Aside0.mk (neg hg BK295 : gb309 ≠ gb295); have n13_ := Aside0.mk (nel hg BK302 : gb302 ≠ gb309); have n14_ := Aside0.mk (neg hg BK302 : gb309 ≠ gb302); clear HO300; clear HO307; clear BK288; clear BK295; clear BK302; clear HB; have HO300 := n0_; have HO307 := n1_; have BK288 := n2_; have BK295 := n3_; have BK302 := n4_; have HB := n5_; have BK309 := n6_; have GW309 := n7_; have GE309 := n8_; have NB288_309 := n9_; have NB309_288 := n10_; have NB295_309 := n11_; have NB309_295 := n12_; have NB302_309 := n13_; have NB309_302 := n14_; clear n0_ n1_ n2_ n3_ n4_ n5_ n6_ n7_ n8_ n9_ n10_ n11_ n12_ n13_ n14_; clear hb hbox hg; have hnb52 := NB309_288.out; have hnc52 := NB288_309.out; have hnb53 := NB309_295.out; have hnc53 := NB295_309.out; have hnb54 := NB309_302.out; have hnc54 := NB302_309.out; have hcz55_0 : w51.cell? ⟨gb309, 0, none⟩ = some (.int .i64 0) := (blk_cell BK309.out 0).trans rfl; have hcz55_1 : w51.cell? ⟨gb309, 1, none⟩ = some (.int .i64 0) := (blk_cell BK309.out 1).trans rfl; have hcz55_2 : w51.cell? ⟨gb309, 2, none⟩ = some (.slice none 0 0) := (blk_cell BK309.out 2).trans rfl; have hfz55_0 := blk_frozen BK309.out 0; have hfz55_1 := blk_frozen BK309.out 1; have hfz55_2 := blk_frozen BK309.out 2; obtain ⟨Ao56, co56, eo56⟩ := Kd.R_slice HO307.out; subst eo56; have hcz57_0 : w51.cell? ⟨gb288, 0, none⟩ = some (.int .i64 a0_0) := (blk_cell BK288.out 0).trans rfl; have hcz57_1 : w51.cell? ⟨gb288, 1, none⟩ = some (.int .i64 a0_1) := (blk_cell BK288.out 1).trans rfl; have hcz57_2 : w51.cell? ⟨gb288, 2, none⟩ = some (.slice A0_2 l0_2.length c0_2) := (blk_cell BK288.out 2).trans rfl; have hfz57_0 := blk_frozen BK288.out 0; have hfz57_1 := blk_frozen BK288.out 1; have hfz57_2 := blk_frozen BK288.out 2) | ((with_reducible refine gate_callee (f := 15) rfl ?_); refine goesL_ (some 69) rfl rfl Try.func15 (by kernel_rfl) rfl #[.agg #[.int .i64 a0_0, .int .i64 a0_1, .slice A0_2 l0_2.length c0_2], .agg #[.int .i64 a3, .int .i64 0, .int .i64 0, .int .u32 0]] rfl mapx ?_; (with_reducible refine (printing_Print.calls k a0_0 a0_1 _ _ l0_2 a3 0 0 0 t310 t311 t312 t315 _ ?side1 ?side2 A18.out).mono ?_); (case side1 => exact Kd.C_below HR0_2.out (hb4 HB GE288 GE295 GE302 GE309)); (case side2 => exact HC0_2.out); rintro e w58 ⟨v313, rfl, ho0, hb⟩; refine ⟨_, rfl, ?_⟩; have n0_ := Aside0.mk (Kd.R_elder' (by refine rkt ?_; exact (far3 HO300 BK309)) (Kd.R_base ho0) hb); have n1_ := Aside0.mk (Kd.R_elder' (by refine rkt ?_; exact (far3 HO307 BK309)) (Kd.R_base ho0) hb); have n2_ := Aside0.mk (Kd.R_lower (Kd.R_new' (Kd.R_new' ho0 (Kd.R_lt (by refine rkt ?_; exact (far3 HO300 BK309)))) (Kd.R_lt (by refine rkt ?_; exact (far3 HO307 BK309)))) (below_size (hb4 HB GE288 GE295 GE302 GE309))); have n3_ := Aside0.mk (blk_below (g := gb288) (o := .cells #[.int .i64 a0_0, .int .i64 a0_1, .slice A0_2 l0_2.length c0_2] 33 (0, 0)) (bky BK288 NB288_309) hb); have n4_ := Aside0.mk (blk_below (g := gb295) (o := .cells #[.int .i64 a0_0, .int .i64 a0_1, .slice A1 y291.length c1] 24 (0, 0)) (bky BK295 NB295_309) hb); have n5_ := Aside0.mk (blk_below (g := gb302) (o := .cells #[.int .i64 t296, .int .i64 t297, .slice Ao48 t298.length co48] 24 (0, 0)) (bky BK302 NB302_309) hb); have n6_ := Aside0.mk (blk_below (g := gb309) (o := .cells #[.int .i64 t303, .int .i64 t304, .slice Ao56 t305.length co56] 24 (0, 0)) (by refine bkt ?_; refine blk_put (cs := #[.int .i64 t303, .int .i64 t304, .slice none 0 0]) ?_ 2 _ rfl; refine bkt ?_; refine blk_put (cs := #[.int .i64 t303, .int .i64 0, .slice none 0 0]) ?_ 1 _ rfl; refine bkt ?_; refine blk_put (cs := #[.int .i64 0, .int .i64 0, .slice none 0 0]) ?_ 0 _ rfl; refine bkt ?_; exact BK309.out) hb); have n7_ := Aside0.mk (below_step (hb4 HB GE288 GE295 GE302 GE309) hb); clear HO300; clear HO307; clear BK288; clear BK295; clear BK302; clear BK309; clear HB; have HO300 := n0_; have HO307 := n1_; have HO314 := n2_; have BK288 := n3_; have BK295 := n4_; have BK302 := n5_; have BK309 := n6_; have HB := n7_; clear n0_ n1_ n2_ n3_ n4_ n5_ n6_ n7_; (try clear hb); (try clear hb2); (try clear hk); (try clear hi); (try clear ho0)) | ((with_reducible refine gate_dst (N := 15) rfl ?_); (try (refine gate_guard (by rfl) ?_; dsimp only)); refine box_event ?hg (N := 15) ?hd (cs := #[.int .i64 0, .int .i64 0, .slice none 0 0]) (t := 24) ?hr ?_; (case hd => rfl); (case hg => rfl); (case hr => first | (go_simp; done) | (go_simp; rfl)); intro gb316 hg w59 hbox hb; have n0_ := Aside0.mk (Kd.R_below (rkx HO300) hb); have n1_ := Aside0.mk (Kd.R_below (rkx HO307) hb); have n2_ := Aside0.mk (Kd.R_below (rkx HO314) hb); have n3_ := Aside0.mk (blk_below (bkx BK288) hb); have n4_ := Aside0.mk (blk_below (bkx BK295) hb); have n5_ := Aside0.mk (blk_below (bkx BK302) hb); have n6_ := Aside0.mk (blk_below (bkx BK309) hb); have n7_ := Aside0.mk (below_step (hb4 HB GE288 GE295 GE302 GE309) hb); have n8_ := Aside0.mk (hbox); have n9_ := Aside0.mk ((by rw [hg]; exact (below_size (hb4 HB GE288 GE295 GE302 GE309)) : w.heap.size ≤ gb316)); have n10_ := Aside0.mk ((by rw [hg]; exact (below_size (hb4 HB GE288 GE295 GE302 GE309)) : w.heap.size ≤ gb316)); have n11_ := Aside0.mk (nel hg BK288 : gb288 ≠ gb316); have n12_ := Aside0.mk (neg hg BK288 : gb316 ≠ gb288); have n13_ := Aside0.mk (nel hg BK295 : gb295 ≠ gb316); have n14_ := Aside0.mk (neg hg BK295 : gb316 ≠ gb295); have n15_ := Aside0.mk (nel hg BK302 : gb302 ≠ gb316); have n16_ := Aside0.mk (neg hg BK302 : gb316 ≠ gb302); have n17_ := Aside0.mk (nel hg BK309 : gb309 ≠ gb316); have n18_ := Aside0.mk (neg hg BK309 : gb316 ≠ gb309); clear HO300; clear HO307; clear HO314; clear BK288; clear BK295; clear BK302; clear BK309; clear HB; have HO300 := n0_; have HO307 := n1_; have HO314 := n2_; have BK288 := n3_; have BK295 := n4_; have BK302 := n5_; have BK309 := n6_; have HB := n7_; have BK316 := n8_; have GW316 := n9_; have GE316 := n10_; have NB288_316 := n11_; have NB316_288 := n12_; have NB295_316 := n13_; have NB316_295 := n14_; have NB302_316 := n15_; have NB316_302 := n16_; have NB309_316 := n17_; have NB316_309 := n18_; clear n0_ n1_ n2_ n3_ n4_ n5_ n6_ n7_ n8_ n9_ n10_ n11_ n12_ n13_ n14_ n15_ n16_ n17_ n18_; clear hb hbox hg; have hnb60 := NB316_288.out; have hnc60 := NB288_316.out; have hnb61 := NB316_295.out; have hnc61 := NB295_316.out; have hnb62 := NB316_302.out; have hnc62 := NB302_316.out; have hnb63 := NB316_309.out; have hnc63 := NB309_316.out; have hcz64_0 : w59.cell? ⟨gb316, 0, none⟩ = some (.int .i64 0) := (blk_cell BK316.out 0).trans rfl; have hcz64_1 : w59.cell? ⟨gb316, 1, none⟩ = some (.int .i64 0) := (blk_cell BK316.out 1).trans rfl; have hcz64_2 : w59.cell? ⟨gb316, 2, none⟩ = some (.slice none 0 0) := (blk_cell BK316.out 2).trans rfl; have hfz64_0 := blk_frozen BK316.out 0; have hfz64_1 := blk_frozen BK316.out 1; have hfz64_2 := blk_frozen BK316.out 2; obtain ⟨Ao65, co65, eo65⟩ := Kd.R_slice HO314.out; subst eo65; have hcz66_0 : w59.cell? ⟨gb288, 0, none⟩ = some (.int .i64 a0_0) := (blk_cell BK288.out 0).trans rfl; have hcz66_1 : w59.cell? ⟨gb288, 1, none⟩ = some (.int .i64 a0_1) := (blk_cell BK288.out 1).trans rfl; have hcz66_2 : w59.cell? ⟨gb288, 2, none⟩ = some (.slice A0_2 l0_2.length c0_2) := (blk_cell BK288.out 2).trans rfl; have hfz66_0 := blk_frozen BK288.out 0; have hfz66_1 := blk_frozen BK288.out 1; have hfz66_2 := blk_frozen BK288.out 2) | ((with_reducible refine gate_callee (f := 16) rfl ?_); refine goesL_ (some 75) rfl rfl Try.func16 (by kernel_rfl) rfl #[.agg #[.int .i64 a0_0, .int .i64 a0_1, .slice A0_2 l0_2.length c0_2], .int .i64 a3] rfl mapx ?_; (with_reducible refine (raster_Turn.calls k a0_0 a0_1 _ _ l0_2 a3 t317 t318 t319 t322 _ ?side1 ?side2 A19.out).mono ?_); (case side1 => exact Kd.C_below HR0_2.out (hb5 HB GE288 GE295 GE302 GE309 GE316)); (case side2 => exact HC0_2.out); rintro e w67 ⟨v320, rfl, ho0, hb⟩; refine ⟨_, rfl, ?_⟩; have n0_ := Aside0.mk (Kd.R_below (by refine rkt ?_; exact (far3 HO300 BK316)) hb); have n1_ := Aside0.mk (Kd.R_below (by refine rkt ?_; exact (far3 HO307 BK316)) hb); have n2_ := Aside0.mk (Kd.R_below (by refine rkt ?_; exact (far3 HO314 BK316)) hb); have n3_ := Aside0.mk (Kd.R_lower ho0 (below_size (hb5 HB GE288 GE295 GE302 GE309 GE316))); have n4_ := Aside0.mk (blk_below (g := gb288) (o := .cells #[.int .i64 a0_0, .int .i64 a0_1, .slice A0_2 l0_2.length c0_2] 33 (0, 0)) (bky BK288 NB288_316) hb); have n5_ := Aside0.mk (blk_below (g := gb295) (o := .cells #[.int .i64 a0_0, .int .i64 a0_1, .slice A1 y291.length c1] 24 (0, 0)) (bky BK295 NB295_316) hb); have n6_ := Aside0.mk (blk_below (g := gb302) (o := .cells #[.int .i64 t296, .int .i64 t297, .slice Ao48 t298.length co48] 24 (0, 0)) (bky BK302 NB302_316) hb); have n7_ := Aside0.mk (blk_below (g := gb309) (o := .cells #[.int .i64 t303, .int .i64 t304, .slice Ao56 t305.length co56] 24 (0, 0)) (bky BK309 NB309_316) hb); have n8_ := Aside0.mk (blk_below (g := gb316) (o := .cells #[.int .i64 t310, .int .i64 t311, .slice Ao65 t312.length co65] 24 (0, 0)) (by refine bkt ?_; refine blk_put (cs := #[.int .i64 t310, .int .i64 t311, .slice none 0 0]) ?_ 2 _ rfl; refine bkt ?_; refine blk_put (cs := #[.int .i64 t310, .int .i64 0, .slice none 0 0]) ?_ 1 _ rfl; refine bkt ?_; refine blk_put (cs := #[.int .i64 0, .int .i64 0, .slice none 0 0]) ?_ 0 _ rfl; refine bkt ?_; exact BK316.out) hb); have n9_ := Aside0.mk (below_step (hb5 HB GE288 GE295 GE302 GE309 GE316) hb); clear HO300; clear HO307; clear HO314; clear BK288; clear BK295; clear BK302; clear BK309; clear BK316; clear HB; have HO300 := n0_; have HO307 := n1_; have HO314 := n2_; have HO321 := n3_; have BK288 := n4_; have BK295 := n5_; have BK302 := n6_; have BK309 := n7_; have BK316 := n8_; have HB := n9_; clear n0_ n1_ n2_ n3_ n4_ n5_ n6_ n7_ n8_ n9_; (try clear hb); (try clear hb2); (try clear hk); (try clear hi); (try clear ho0)) | ((with_reducible refine gate_dst (N := 17) rfl ?_); (try (refine gate_guard (by rfl) ?_; dsimp only)); refine box_event ?hg (N := 17) ?hd (cs := #[.int .i64 0, .int .i64 0, .slice none 0 0]) (t := 33) ?hr ?_; (case hd => rfl); (case hg => rfl); (case hr => first | (go_simp; done) | (go_simp; rfl)); intro gb323 hg w68 hbox hb; have n0_ := Aside0.mk (Kd.R_below (rkx HO300) hb); have n1_ := Aside0.mk (Kd.R_below (rkx HO307) hb); have n2_ := Aside0.mk (Kd.R_below (rkx HO314) hb); have n3_ := Aside0.mk (Kd.R_below (rkx HO321) hb); have n4_ := Aside0.mk (blk_below (bkx BK288) hb); have n5_ := Aside0.mk (blk_below (bkx BK295) hb); have n6_ := Aside0.mk (blk_below (bkx BK302) hb); have n7_ := Aside0.mk (blk_below (bkx BK309) hb); have n8_ := Aside0.mk (blk_below (bkx BK316) hb); have n9_ := Aside0.mk (below_step (hb5 HB GE288 GE295 GE302 GE309 GE316) hb); have n10_ := Aside0.mk (hbox); have n11_ := Aside0.mk ((by rw [hg]; exact (below_size (hb5 HB GE288 GE295 GE302 GE309 GE316)) : w.heap.size ≤ gb323)); have n12_ := Aside0.mk ((by rw [hg]; exact (below_size (hb5 HB GE288 GE295 GE302 GE309 GE316)) : w.heap.size ≤ gb323)); have n13_ := Aside0.mk (nel hg BK288 : gb288 ≠ gb323); have n14_ := Aside0.mk (neg hg BK288 : gb323 ≠ gb288); have n15_ := Aside0.mk (nel hg BK295 : gb295 ≠ gb323); have n16_ := Aside0.mk (neg hg BK295 : gb323 ≠ gb295); have n17_ := Aside0.mk (nel hg BK302 : gb302 ≠ gb323); have n18_ := Aside0.mk (neg hg BK302 : gb323 ≠ gb302); have n19_ := Aside0.mk (nel hg BK309 : gb309 ≠ gb323); have n20_ := Aside0.mk (neg hg BK309 : gb323 ≠ gb309); have n21_ := Aside0.mk (nel hg BK316 : gb316 ≠ gb323); have n22_ := Aside0.mk (neg hg BK316 : gb323 ≠ gb316); clear HO300; clear HO307; clear HO314; clear HO321; clear BK288; clear BK295; clear BK302; clear BK309; clear BK316; clear HB; have HO300 := n0_; have HO307 := n1_; have HO314 := n2_; have HO321 := n3_; have BK288 := n4_; have BK295 := n5_; have BK302 := n6_; have BK309 := n7_; have BK316 := n8_; have HB := n9_; have BK323 := n10_; have GW323 := n11_; have GE323 := n12_; have NB288_323 := n13_; have NB323_288 := n14_; have NB295_323 := n15_; have NB323_295 := n16_; have NB302_323 := n17_; have NB323_302 := n18_; have NB309_323 := n19_; have NB323_309 := n20_; have NB316_323 := n21_; have NB323_316 := n22_; clear n0_ n1_ n2_ n3_ n4_ n5_ n6_ n7_ n8_ n9_ n10_ n11_ n12_ n13_ n14_ n15_ n16_ n17_ n18_ n19_ n20_ n21_ n22_; clear hb hbox hg; have hnb69 := NB323_288.out; have hnc69 := NB288_323.out; have hnb70 := NB323_295.out; have hnc70 := NB295_323.out; have hnb71 := NB323_302.out; have hnc71 := NB302_323.out; have hnb72 := NB323_309.out; have hnc72 := NB309_323.out; have hnb73 := NB323_316.out; have hnc73 := NB316_323.out; have hcz74_0 : w68.cell? ⟨gb323, 0, none⟩ = some (.int .i64 0) := (blk_cell BK323.out 0).trans rfl; have hcz74_1 : w68.cell? ⟨gb323, 1, none⟩ = some (.int .i64 0) := (blk_cell BK323.out 1).trans rfl; have hcz74_2 : w68.cell? ⟨gb323, 2, none⟩ = some (.slice none 0 0) := (blk_cell BK323.out 2).trans rfl; have hfz74_0 := blk_frozen BK323.out 0; have hfz74_1 := blk_frozen BK323.out 1; have hfz74_2 := blk_frozen BK323.out 2; obtain ⟨Ao75, co75, eo75⟩ := Kd.R_slice HO321.out; subst eo75) | ((with_reducible refine gate_callee (f := 17) rfl ?_); refine goesL_ (some 80) rfl rfl Try.func17 (by kernel_rfl) rfl #[.agg #[.int .i64 t317, .int .i64 t318, .slice Ao75 t319.length co75]] rfl mapx ?_; (with_reducible refine (raster_Gray.calls k t317 t318 _ _ t319 t324 t325 t326 t329 _ ?side1 ?side2 A20.out).mono ?_); (case side1 => refine (Kd.R_reads' (e := 4) (base := w.heap.size) (ok := fun k_ => True) (n := t319.length) (c := co75) ?_).2.2; exact (by refine rkt ?_; exact (far3 HO321 BK323))); (case side2 => exact (Kd.R_reads' HO321.out).2.1); rintro e w76 ⟨v327, rfl, ho0, hb⟩; refine ⟨_, rfl, ?_⟩; have n0_ := Aside0.mk (Kd.R_elder' (by refine rkt ?_; exact (far3 HO300 BK323)) (Kd.R_base ho0) hb); have n1_ := Aside0.mk (Kd.R_elder' (by refine rkt ?_; exact (far3 HO307 BK323)) (Kd.R_base ho0) hb); have n2_ := Aside0.mk (Kd.R_elder' (by refine rkt ?_; exact (far3 HO314 BK323)) (Kd.R_base ho0) hb); have n3_ := Aside0.mk (Kd.R_below (by refine rkt ?_; exact (far3 HO321 BK323)) hb); have n4_ := Aside0.mk (Kd.R_lower (Kd.R_new' (Kd.R_new' (Kd.R_new' ho0 (Kd.R_lt (by refine rkt ?_; exact (far3 HO300 BK323)))) (Kd.R_lt (by refine rkt ?_; exact (far3 HO307 BK323)))) (Kd.R_lt (by refine rkt ?_; exact (far3 HO314 BK323)))) (below_size (hb6 HB GE288 GE295 GE302 GE309 GE316 GE323))); have n5_ := Aside0.mk (blk_below (g := gb288) (o := .cells #[.int .i64 a0_0, .int .i64 a0_1, .slice A0_2 l0_2.length c0_2] 33 (0, 0)) (bky BK288 NB288_323) hb); have n6_ := Aside0.mk (blk_below (g := gb295) (o := .cells #[.int .i64 a0_0, .int .i64 a0_1, .slice A1 y291.length c1] 24 (0, 0)) (bky BK295 NB295_323) hb); have n7_ := Aside0.mk (blk_below (g := gb302) (o := .cells #[.int .i64 t296, .int .i64 t297, .slice Ao48 t298.length co48] 24 (0, 0)) (bky BK302 NB302_323) hb); have n8_ := Aside0.mk (blk_below (g := gb309) (o := .cells #[.int .i64 t303, .int .i64 t304, .slice Ao56 t305.length co56] 24 (0, 0)) (bky BK309 NB309_323) hb); have n9_ := Aside0.mk (blk_below (g := gb316) (o := .cells #[.int .i64 t310, .int .i64 t311, .slice Ao65 t312.length co65] 24 (0, 0)) (bky BK316 NB316_323) hb); have n10_ := Aside0.mk (blk_below (g := gb323) (o := .cells #[.int .i64 t317, .int .i64 t318, .slice Ao75 t319.length co75] 33 (0, 0)) (by refine bkt ?_; refine blk_put (cs := #[.int .i64 t317, .int .i64 t318, .slice none 0 0]) ?_ 2 _ rfl; refine bkt ?_; refine blk_put (cs := #[.int .i64 t317, .int .i64 0, .slice none 0 0]) ?_ 1 _ rfl; refine bkt ?_; refine blk_put (cs := #[.int .i64 0, .int .i64 0, .slice none 0 0]) ?_ 0 _ rfl; refine bkt ?_; exact BK323.out) hb); have n11_ := Aside0.mk (below_step (hb6 HB GE288 GE295 GE302 GE309 GE316 GE323) hb); clear HO300; clear HO307; clear HO314; clear HO321; clear BK288; clear BK295; clear BK302; clear BK309; clear BK316; clear BK323; clear HB; have HO300 := n0_; have HO307 := n1_; have HO314 := n2_; have HO321 := n3_; have HO328 := n4_; have BK288 := n5_; have BK295 := n6_; have BK302 := n7_; have BK309 := n8_; have BK316 := n9_; have BK323 := n10_; have HB := n11_; clear n0_ n1_ n2_ n3_ n4_ n5_ n6_ n7_ n8_ n9_ n10_ n11_; (try clear hb); (try clear hb2); (try clear hk); (try clear hi); (try clear ho0)) | ((with_reducible refine gate_dst (N := 19) rfl ?_); (try (refine gate_guard (by rfl) ?_; dsimp only)); refine box_event ?hg (N := 19) ?hd (cs := #[.int .i64 0, .int .i64 0, .slice none 0 0]) (t := 24) ?hr ?_; (case hd => rfl); (case hg => rfl); (case hr => first | (go_simp; done) | (go_simp; rfl)); intro gb330 hg w77 hbox hb; have n0_ := Aside0.mk (Kd.R_below (rkx HO300) hb); have n1_ := Aside0.mk (Kd.R_below (rkx HO307) hb); have n2_ := Aside0.mk (Kd.R_below (rkx HO314) hb); have n3_ := Aside0.mk (Kd.R_below (rkx HO321) hb); have n4_ := Aside0.mk (Kd.R_below (rkx HO328) hb); have n5_ := Aside0.mk (blk_below (bkx BK288) hb); have n6_ := Aside0.mk (blk_below (bkx BK295) hb); have n7_ := Aside0.mk (blk_below (bkx BK302) hb); have n8_ := Aside0.mk (blk_below (bkx BK309) hb); have n9_ := Aside0.mk (blk_below (bkx BK316) hb); have n10_ := Aside0.mk (blk_below (bkx BK323) hb); have n11_ := Aside0.mk (below_step (hb6 HB GE288 GE295 GE302 GE309 GE316 GE323) hb); have n12_ := Aside0.mk (hbox); have n13_ := Aside0.mk ((by rw [hg]; exact (below_size (hb6 HB GE288 GE295 GE302 GE309 GE316 GE323)) : w.heap.size ≤ gb330)); have n14_ := Aside0.mk ((by rw [hg]; exact (below_size (hb6 HB GE288 GE295 GE302 GE309 GE316 GE323)) : w.heap.size ≤ gb330)); have n15_ := Aside0.mk (nel hg BK288 : gb288 ≠ gb330); have n16_ := Aside0.mk (neg hg BK288 : gb330 ≠ gb288); have n17_ := Aside0.mk (nel hg BK295 : gb295 ≠ gb330); have n18_ := Aside0.mk (neg hg BK295 : gb330 ≠ gb295); have n19_ := Aside0.mk (nel hg BK302 : gb302 ≠ gb330); have n20_ := Aside0.mk (neg hg BK302 : gb330 ≠ gb302); have n21_ := Aside0.mk (nel hg BK309 : gb309 ≠ gb330); have n22_ := Aside0.mk (neg hg BK309 : gb330 ≠ gb309); have n23_ := Aside0.mk (nel hg BK316 : gb316 ≠ gb330); have n24_ := Aside0.mk (neg hg BK316 : gb330 ≠ gb316); have n25_ := Aside0.mk (nel hg BK323 : gb323 ≠ gb330); have n26_ := Aside0.mk (neg hg BK323 : gb330 ≠ gb323); clear HO300; clear HO307; clear HO314; clear HO321; clear HO328; clear BK288; clear BK295; clear BK302; clear BK309; clear BK316; clear BK323; clear HB; have HO300 := n0_; have HO307 := n1_; have HO314 := n2_; have HO321 := n3_; have HO328 := n4_; have BK288 := n5_; have BK295 := n6_; have BK302 := n7_; have BK309 := n8_; have BK316 := n9_; have BK323 := n10_; have HB := n11_; have BK330 := n12_; have GW330 := n13_; have GE330 := n14_; have NB288_330 := n15_; have NB330_288 := n16_; have NB295_330 := n17_; have NB330_295 := n18_; have NB302_330 := n19_; have NB330_302 := n20_; have NB309_330 := n21_; have NB330_309 := n22_; have NB316_330 := n23_; have NB330_316 := n24_; have NB323_330 := n25_; have NB330_323 := n26_; clear n0_ n1_ n2_ n3_ n4_ n5_ n6_ n7_ n8_ n9_ n10_ n11_ n12_ n13_ n14_ n15_ n16_ n17_ n18_ n19_ n20_ n21_ n22_ n23_ n24_ n25_ n26_; clear hb hbox hg; have hnb78 := NB330_288.out; have hnc78 := NB288_330.out; have hnb79 := NB330_295.out; have hnc79 := NB295_330.out; have hnb80 := NB330_302.out; have hnc80 := NB302_330.out; have hnb81 := NB330_309.out; have hnc81 := NB309_330.out; have hnb82 := NB330_316.out; have hnc82 := NB316_330.out; have hnb83 := NB330_323.out; have hnc83 := NB323_330.out; have hcz84_0 : w77.cell? ⟨gb330, 0, none⟩ = some (.int .i64 0) := (blk_cell BK330.out 0).trans rfl; have hcz84_1 : w77.cell? ⟨gb330, 1, none⟩ = some (.int .i64 0) := (blk_cell BK330.out 1).trans rfl; have hcz84_2 : w77.cell? ⟨gb330, 2, none⟩ = some (.slice none 0 0) := (blk_cell BK330.out 2).trans rfl; have hfz84_0 := blk_frozen BK330.out 0; have hfz84_1 := blk_frozen BK330.out 1; have hfz84_2 := blk_frozen BK330.out 2; obtain ⟨Ao85, co85, eo85⟩ := Kd.R_slice HO328.out; subst eo85; have hcz86_0 : w77.cell? ⟨gb302, 0, none⟩ = some (.int .i64 t296) := (blk_cell BK302.out 0).trans rfl; have hcz86_1 : w77.cell? ⟨gb302, 1, none⟩ = some (.int .i64 t297) := (blk_cell BK302.out 1).trans rfl; have hcz86_2 : w77.cell? ⟨gb302, 2, none⟩ = some (.slice Ao48 t298.length co48) := (blk_cell BK302.out 2).trans rfl; have hfz86_0 := blk_frozen BK302.out 0; have hfz86_1 := blk_frozen BK302.out 1; have hfz86_2 := blk_frozen BK302.out 2; have hcz87_0 : w77.cell? ⟨gb295, 0, none⟩ = some (.int .i64 a0_0) := (blk_cell BK295.out 0).trans rfl; have hcz87_1 : w77.cell? ⟨gb295, 1, none⟩ = some (.int .i64 a0_1) := (blk_cell BK295.out 1).trans rfl; have hcz87_2 : w77.cell? ⟨gb295, 2, none⟩ = some (.slice A1 y291.length c1) := (blk_cell BK295.out 2).trans rfl; have hfz87_0 := blk_frozen BK295.out 0; have hfz87_1 := blk_frozen BK295.out 1; have hfz87_2 := blk_frozen BK295.out 2) | (go_at_call 13; (with_reducible refine (barscanlaw43_equal.calls k t296 t297 _ _ t298 a0_0 a0_1 _ _ y291 true _ ?side1 ?side2 ?side3 ?side4 A26.out).mono ?_); (case side1 => refine (Kd.R_reads' (e := 5) (base := w.heap.size) (ok := fun k_ => (((True ∧ some k_ ≠ (.slice Ao56 t305.length co56 : Value).ownBlock) ∧ some k_ ≠ (.slice Ao65 t312.length co65 : Value).ownBlock) ∧ some k_ ≠ (.slice Ao85 t326.length co85 : Value).ownBlock)) (n := t298.length) (c := co48) ?_).2.2; exact (by refine rkt ?_; exact (far3 HO300 BK330))); (case side2 => exact (Kd.R_reads' HO300.out).2.1); (case side3 => exact Kd.C_below HR294.out (hb7 HB GE288 GE295 GE302 GE309 GE316 GE323 GE330)); (case side4 => exact HC294.out); rintro e w88 ⟨rfl, hb⟩; have n0_ := Aside0.mk (Kd.R_below (by refine rkt ?_; exact (far3 HO300 BK330)) hb); have n1_ := Aside0.mk (Kd.R_below (by refine rkt ?_; exact (far3 HO307 BK330)) hb); have n2_ := Aside0.mk (Kd.R_below (by refine rkt ?_; exact (far3 HO314 BK330)) hb); have n3_ := Aside0.mk (Kd.R_below (by refine rkt ?_; exact (far3 HO321 BK330)) hb); have n4_ := Aside0.mk (Kd.R_below (by refine rkt ?_; exact (far3 HO328 BK330)) hb); have n5_ := Aside0.mk (blk_below (g := gb288) (o := .cells #[.int .i64 a0_0, .int .i64 a0_1, .slice A0_2 l0_2.length c0_2] 33 (0, 0)) (bky BK288 NB288_330) hb); have n6_ := Aside0.mk (blk_below (g := gb295) (o := .cells #[.int .i64 a0_0, .int .i64 a0_1, .slice A1 y291.length c1] 24 (0, 0)) (bky BK295 NB295_330) hb); have n7_ := Aside0.mk (blk_below (g := gb302) (o := .cells #[.int .i64 t296, .int .i64 t297, .slice Ao48 t298.length co48] 24 (0, 0)) (bky BK302 NB302_330) hb); have n8_ := Aside0.mk (blk_below (g := gb309) (o := .cells #[.int .i64 t303, .int .i64 t304, .slice Ao56 t305.length co56] 24 (0, 0)) (bky BK309 NB309_330) hb); have n9_ := Aside0.mk (blk_below (g := gb316) (o := .cells #[.int .i64 t310, .int .i64 t311, .slice Ao65 t312.length co65] 24 (0, 0)) (bky BK316 NB316_330) hb); have n10_ := Aside0.mk (blk_below (g := gb323) (o := .cells #[.int .i64 t317, .int .i64 t318, .slice Ao75 t319.length co75] 33 (0, 0)) (bky BK323 NB323_330) hb); have n11_ := Aside0.mk (blk_below (g := gb330) (o := .cells #[.int .i64 t324, .int .i64 t325, .slice Ao85 t326.length co85] 24 (0, 0)) (by refine bkt ?_; refine blk_put (cs := #[.int .i64 t324, .int .i64 t325, .slice none 0 0]) ?_ 2 _ rfl; refine bkt ?_; refine blk_put (cs := #[.int .i64 t324, .int .i64 0, .slice none 0 0]) ?_ 1 _ rfl; refine bkt ?_; refine blk_put (cs := #[.int .i64 0, .int .i64 0, .slice none 0 0]) ?_ 0 _ rfl; refine bkt ?_; exact BK330.out) hb); have n12_ := Aside0.mk (below_step (hb7 HB GE288 GE295 GE302 GE309 GE316 GE323 GE330) hb); clear HO300; clear HO307; clear HO314; clear HO321; clear HO328; clear BK288; clear BK295; clear BK302; clear BK309; clear BK316; clear BK323; clear BK330; clear HB; have HO300 := n0_; have HO307 := n1_; have HO314 := n2_; have HO321 := n3_; have HO328 := n4_; have BK288 := n5_; have BK295 := n6_; have BK302 := n7_; have BK309 := n8_; have BK316 := n9_; have BK323 := n10_; have BK330 := n11_; have HB := n12_; clear n0_ n1_ n2_ n3_ n4_ n5_ n6_ n7_ n8_ n9_ n10_ n11_ n12_; (try clear hb); (try clear hb2); (try clear hk); (try clear hi); have hcz89_0 : w88.cell? ⟨gb316, 0, none⟩ = some (.int .i64 t310) := (blk_cell BK316.out 0).trans rfl; have hcz89_1 : w88.cell? ⟨gb316, 1, none⟩ = some (.int .i64 t311) := (blk_cell BK316.out 1).trans rfl; have hcz89_2 : w88.cell? ⟨gb316, 2, none⟩ = some (.slice Ao65 t312.length co65) := (blk_cell BK316.out 2).trans rfl; have hfz89_0 := blk_frozen BK316.out 0; have hfz89_1 := blk_frozen BK316.out 1; have hfz89_2 := blk_frozen BK316.out 2; have hcz90_0 : w88.cell? ⟨gb330, 0, none⟩ = some (.int .i64 t324) := (blk_cell BK330.out 0).trans rfl; have hcz90_1 : w88.cell? ⟨gb330, 1, none⟩ = some (.int .i64 t325) := (blk_cell BK330.out 1).trans rfl; have hcz90_2 : w88.cell? ⟨gb330, 2, none⟩ = some (.slice Ao85 t326.length co85) := (blk_cell BK330.out 2).trans rfl; have hfz90_0 := blk_frozen BK330.out 0; have hfz90_1 := blk_frozen BK330.out 1; have hfz90_2 := blk_frozen BK330.out 2) | (go_at_call 13; (with_reducible refine (barscanlaw43_equal.calls k t310 t311 _ _ t312 t324 t325 _ _ t326 true _ ?side1 ?side2 ?side3 ?side4 A28.out).mono ?_); (case side1 => repeat (first | exact (Kd.R_reads' HO314.out).2.2 | (with_reducible refine Kd.C_alloc ?_ _) | (with_reducible refine Kd.C_drewN ?_ _) | (with_reducible refine Kd.C_drew ?_))); (case side2 => exact (Kd.R_reads' HO314.out).2.1); (case side3 => repeat (first | exact (Kd.R_reads' HO328.out).2.2 | (with_reducible refine Kd.C_alloc ?_ _) | (with_reducible refine Kd.C_drewN ?_ _) | (with_reducible refine Kd.C_drew ?_))); (case side4 => exact (Kd.R_reads' HO328.out).2.1); rintro e w91 ⟨rfl, hb⟩; have n0_ := Aside0.mk (Kd.R_below (rkx HO300) hb); have n1_ := Aside0.mk (Kd.R_below (rkx HO307) hb); have n2_ := Aside0.mk (Kd.R_below (rkx HO314) hb); have n3_ := Aside0.mk (Kd.R_below (rkx HO321) hb); have n4_ := Aside0.mk (Kd.R_below (rkx HO328) hb); have n5_ := Aside0.mk (blk_below (bkx BK288) hb); have n6_ := Aside0.mk (blk_below (bkx BK295) hb); have n7_ := Aside0.mk (blk_below (bkx BK302) hb); have n8_ := Aside0.mk (blk_below (bkx BK309) hb); have n9_ := Aside0.mk (blk_below (bkx BK316) hb); have n10_ := Aside0.mk (blk_below (bkx BK323) hb); have n11_ := Aside0.mk (blk_below (bkx BK330) hb); have n12_ := Aside0.mk (below_step (hb7 HB GE288 GE295 GE302 GE309 GE316 GE323 GE330) hb); clear HO300; clear HO307; clear HO314; clear HO321; clear HO328; clear BK288; clear BK295; clear BK302; clear BK309; clear BK316; clear BK323; clear BK330; clear HB; have HO300 := n0_; have HO307 := n1_; have HO314 := n2_; have HO321 := n3_; have HO328 := n4_; have BK288 := n5_; have BK295 := n6_; have BK302 := n7_; have BK309 := n8_; have BK316 := n9_; have BK323 := n10_; have BK330 := n11_; have HB := n12_; clear n0_ n1_ n2_ n3_ n4_ n5_ n6_ n7_ n8_ n9_ n10_ n11_ n12_; (try clear hb); (try clear hb2); (try clear hk); (try clear hi); have hcz92_0 : w91.cell? ⟨gb309, 0, none⟩ = some (.int .i64 t303) := (blk_cell BK309.out 0).trans rfl; have hcz92_1 : w91.cell? ⟨gb309, 1, none⟩ = some (.int .i64 t304) := (blk_cell BK309.out 1).trans rfl; have hcz92_2 : w91.cell? ⟨gb309, 2, none⟩ = some (.slice Ao56 t305.length co56) := (blk_cell BK309.out 2).trans rfl; have hfz92_0 := blk_frozen BK309.out 0; have hfz92_1 := blk_frozen BK309.out 1; have hfz92_2 := blk_frozen BK309.out 2; have hcz93_0 : w91.cell? ⟨gb295, 0, none⟩ = some (.int .i64 a0_0) := (blk_cell BK295.out 0).trans rfl; have hcz93_1 : w91.cell? ⟨gb295, 1, none⟩ = some (.int .i64 a0_1) := (blk_cell BK295.out 1).trans rfl; have hcz93_2 : w91.cell? ⟨gb295, 2, none⟩ = some (.slice A1 y291.length c1) := (blk_cell BK295.out 2).trans rfl; have hfz93_0 := blk_frozen BK295.out 0; have hfz93_1 := blk_frozen BK295.out 1; have hfz93_2 := blk_frozen BK295.out 2))
             go_loopg [125] k (fun kq v125 w' => ∃ (x125_1 : Int), v125 = .int .i64 x125_1 ∧ Aside0 (barscanlaw43_PrintingMeans.l0 kq (wrap64 (Int.tmod a2 8)) t305 (t305.length : Int) x125_1 a0_0 a0_1 l0_2 a0_0 a0_1 y291 = some r) ∧ Aside0 (kq ≤ k) ∧ Aside0 (Kd.R (Kd.int .u8) 5 w' w.heap.size (fun k_ => some k_ ≠ ((.slice Ao48 t298.length co48) : Value).ownBlock ∧ some k_ ≠ ((.slice Ao65 t312.length co65) : Value).ownBlock ∧ some k_ ≠ ((.slice Ao85 t326.length co85) : Value).ownBlock) (.slice Ao56 t305.length co56) t305) ∧ Aside0 (Kd.R (Kd.int .u8) 5 w' w.heap.size (fun k_ => some k_ ≠ ((.slice Ao56 t305.length co56) : Value).ownBlock ∧ some k_ ≠ ((.slice Ao56 t305.length co56) : Value).ownBlock ∧ some k_ ≠ ((.slice Ao65 t312.length co65) : Value).ownBlock ∧ some k_ ≠ ((.slice Ao85 t326.length co85) : Value).ownBlock) (.slice Ao48 t298.length co48) t298) ∧ Aside0 (Kd.R (Kd.int .u8) 5 w' w.heap.size (fun k_ => some k_ ≠ ((.slice Ao48 t298.length co48) : Value).ownBlock ∧ some k_ ≠ ((.slice Ao65 t312.length co65) : Value).ownBlock ∧ some k_ ≠ ((.slice Ao85 t326.length co85) : Value).ownBlock) (.slice Ao56 t305.length co56) t305) ∧ Aside0 (Kd.R (Kd.int .u8) 5 w' w.heap.size (fun k_ => some k_ ≠ ((.slice Ao56 t305.length co56) : Value).ownBlock ∧ some k_ ≠ ((.slice Ao48 t298.length co48) : Value).ownBlock ∧ some k_ ≠ ((.slice Ao56 t305.length co56) : Value).ownBlock ∧ some k_ ≠ ((.slice Ao85 t326.length co85) : Value).ownBlock) (.slice Ao65 t312.length co65) t312) ∧ Aside0 (Kd.R Kd.bool 4 w' w.heap.size (fun _ => True) (.slice Ao75 t319.length co75) t319) ∧ Aside0 (Kd.R (Kd.int .u8) 5 w' w.heap.size (fun k_ => some k_ ≠ ((.slice Ao56 t305.length co56) : Value).ownBlock ∧ some k_ ≠ ((.slice Ao48 t298.length co48) : Value).ownBlock ∧ some k_ ≠ ((.slice Ao56 t305.length co56) : Value).ownBlock ∧ some k_ ≠ ((.slice Ao65 t312.length co65) : Value).ownBlock) (.slice Ao85 t326.length co85) t326) ∧ Aside0 (w'.heap[gb288]? = some (.cells #[.int .i64 a0_0, .int .i64 a0_1, (.slice A0_2 l0_2.length c0_2)] 33 (0, 0))) ∧ Aside0 (w'.heap[gb295]? = some (.cells #[.int .i64 a0_0, .int .i64 a0_1, (.slice A1 y291.length c1)] 24 (0, 0))) ∧ Aside0 (w'.heap[gb302]? = some (.cells #[.int .i64 t296, .int .i64 t297, (.slice Ao48 t298.length co48)] 24 (0, 0))) ∧ Aside0 (w'.heap[gb309]? = some (.cells #[.int .i64 t303, .int .i64 t304, (.slice Ao56 t305.length co56)] 24 (0, 0))) ∧ Aside0 (w'.heap[gb316]? = some (.cells #[.int .i64 t310, .int .i64 t311, (.slice Ao65 t312.length co65)] 24 (0, 0))) ∧ Aside0 (w'.heap[gb323]? = some (.cells #[.int .i64 t317, .int .i64 t318, (.slice Ao75 t319.length co75)] 33 (0, 0))) ∧ Aside0 (w'.heap[gb330]? = some (.cells #[.int .i64 t324, .int .i64 t325, (.slice Ao85 t326.length co85)] 24 (0, 0))) ∧ Aside0 (Below w.heap.size w w'))
             case atStart => exact ⟨(0), (by first | rfl | (simp; done) | (simp [*]; done)), H', ⟨Nat.le_refl _⟩, ⟨by refine rkt ?_; exact Kd.R_mono HO307.out (fun _ hk => ⟨hk.1.1.2, ⟨hk.1.2, hk.2⟩⟩)⟩, ⟨by refine rkt ?_; exact Kd.R_mono HO300.out (fun _ hk => ⟨hk.1.1.2, ⟨hk.1.1.2, ⟨hk.1.2, hk.2⟩⟩⟩)⟩, ⟨by refine rkt ?_; exact Kd.R_mono HO307.out (fun _ hk => ⟨hk.1.1.2, ⟨hk.1.2, hk.2⟩⟩)⟩, ⟨by refine rkt ?_; exact Kd.R_mono HO314.out (fun _ hk => ⟨hk.1.2, ⟨hk.1.1.2, ⟨hk.1.2, hk.2⟩⟩⟩)⟩, ⟨rkx HO321⟩, ⟨by refine rkt ?_; exact Kd.R_mono HO328.out (fun _ hk => ⟨hk.1.2, ⟨hk.1.1.2, ⟨hk.1.2, hk.2⟩⟩⟩)⟩, ⟨bkx BK288⟩, ⟨bkx BK295⟩, ⟨bkx BK302⟩, ⟨bkx BK309⟩, ⟨bkx BK316⟩, ⟨bkx BK323⟩, ⟨bkx BK330⟩, ⟨hb7 HB GE288 GE295 GE302 GE309 GE316 GE323 GE330⟩⟩
             case round =>
              clear H'
              (try clear c1); (try clear c2); (try clear p2); (try clear c3); (try clear q3); (try clear c4); (try clear c5); (try clear c6); (try clear p6); (try clear c7); (try clear c7b0); (try clear c7b1); (try clear c8); (try clear c10); (try clear c11); (try clear c14); (try clear c14b0); (try clear c14b1); (try clear c15); (try clear c15b0); (try clear c15b1); (try clear c16); (try clear c17); (try clear c21); (try clear c21b0); (try clear c21b1); (try clear c22); (try clear c22b0); (try clear c22b1); (try clear c23); (try clear c23b0); (try clear c23b1); (try clear c24); (try clear c24b0); (try clear c24b1); (try clear c25); (try clear c25b0); (try clear c25b1); (try clear c27); (try clear c29); (try clear c30); (try clear c30b0); (try clear c30b1); (try clear c30b2); (try clear q36); (try clear c41); (try clear c45); (try clear c46); (try clear c52); (try clear c53); (try clear c54); (try clear c60); (try clear c61); (try clear c62); (try clear c63); (try clear p64); (try clear c69); (try clear c70); (try clear c71); (try clear c72); (try clear c73); (try clear c78); (try clear c79); (try clear c80); (try clear c81); (try clear c82); (try clear c83); (try clear hcz10_0); (try clear hcz10_1); (try clear hcz10_2); (try clear hcz12_0); (try clear hcz12_1); (try clear hcz12_2); (try clear hcz32_0); (try clear hcz32_1); (try clear hcz32_2); (try clear hcz34_0); (try clear hcz34_1); (try clear hcz34_2); (try clear hcz42_0); (try clear hcz42_1); (try clear hcz42_2); (try clear hcz47_0); (try clear hcz47_1); (try clear hcz47_2); (try clear hcz49_0); (try clear hcz49_1); (try clear hcz49_2); (try clear hcz55_0); (try clear hcz55_1); (try clear hcz55_2); (try clear hcz57_0); (try clear hcz57_1); (try clear hcz57_2); (try clear hcz64_0); (try clear hcz64_1); (try clear hcz64_2); (try clear hcz66_0); (try clear hcz66_1); (try clear hcz66_2); (try clear hcz74_0); (try clear hcz74_1); (try clear hcz74_2); (try clear hcz84_0); (try clear hcz84_1); (try clear hcz84_2); (try clear hcz86_0); (try clear hcz86_1); (try clear hcz86_2); (try clear hcz87_0); (try clear hcz87_1); (try clear hcz87_2); (try clear hcz89_0); (try clear hcz89_1); (try clear hcz89_2); (try clear hcz90_0); (try clear hcz90_1); (try clear hcz90_2); (try clear hcz92_0); (try clear hcz92_1); (try clear hcz92_2); (try clear hcz93_0); (try clear hcz93_1); (try clear hcz93_2); (try clear hfz10_0); (try clear hfz10_1); (try clear hfz10_2); (try clear hfz12_0); (try clear hfz12_1); (try clear hfz12_2); (try clear hfz32_0); (try clear hfz32_1); (try clear hfz32_2); (try clear hfz34_0); (try clear hfz34_1); (try clear hfz34_2); (try clear hfz42_0); (try clear hfz42_1); (try clear hfz42_2); (try clear hfz47_0); (try clear hfz47_1); (try clear hfz47_2); (try clear hfz49_0); (try clear hfz49_1); (try clear hfz49_2); (try clear hfz55_0); (try clear hfz55_1); (try clear hfz55_2); (try clear hfz57_0); (try clear hfz57_1); (try clear hfz57_2); (try clear hfz64_0); (try clear hfz64_1); (try clear hfz64_2); (try clear hfz66_0); (try clear hfz66_1); (try clear hfz66_2); (try clear hfz74_0); (try clear hfz74_1); (try clear hfz74_2); (try clear hfz84_0); (try clear hfz84_1); (try clear hfz84_2); (try clear hfz86_0); (try clear hfz86_1); (try clear hfz86_2); (try clear hfz87_0); (try clear hfz87_1); (try clear hfz87_2); (try clear hfz89_0); (try clear hfz89_1); (try clear hfz89_2); (try clear hfz90_0); (try clear hfz90_1); (try clear hfz90_2); (try clear hfz92_0); (try clear hfz92_1); (try clear hfz92_2); (try clear hfz93_0); (try clear hfz93_1); (try clear hfz93_2); (try clear q36)
              obtain ⟨x125_1, rfl, HA, HK1, HO_123, HO_303002, HO_310002, HO_317002, HO_324002, HO_331002, BK288, BK295, BK302, BK309, BK316, BK323, BK330, HB⟩ := hrel
              cases gk with
              | zero => exact absurd HA.out (by simp [barscanlaw43_PrintingMeans.l0])
              | succ k1 =>
               have H := HA.out
               clear HA
               simp only [barscanlaw43_PrintingMeans.l0] at H
               by_cases c94 : x125_1 < (t305.length : Int)
               ·rw [if_pos c94] at H
                have c94b0 : decide (x125_1 < (t305.length : Int)) = true := decide_eq_true c94
                clear c94
                by_cases c95 : 0 ≤ x125_1
                ·rw [if_pos c95] at H
                 have c95b0 : decide (0 ≤ x125_1) = true := decide_eq_true c95
                 clear c95
                 by_cases c96 : x125_1 < (t305.length : Int)
                 ·rw [if_pos c96] at H
                  have c96b0 : decide (x125_1 < (t305.length : Int)) = true := decide_eq_true c96
                  clear c96
                  by_cases c97 : a0_0 = 0
                  ·rw [if_pos c97] at H
                   exact absurd H (by simp)
                  ·rw [if_neg c97] at H
                   have c97b0 : (a0_0 == 0) = false := beq_eq_false_iff_ne.mpr c97
                   have c97b1 : (a0_0 != 0) = true := bne_iff_ne.mpr c97
                   by_cases c98 : (Int.tmod x125_1 a0_0) < (wrap64 (Int.tmod a2 8))
                   ·rw [if_pos c98] at H
                    have c98b0 : decide ((Int.tmod x125_1 a0_0) < (wrap64 (Int.tmod a2 8))) = true := decide_eq_true c98
                    clear c98
                    obtain ⟨ji99, hji99⟩ : ∃ j_ : Int, (mx 0 (wrap64 ((wrap64 (Int.tdiv x125_1 a0_0)) - (wrap64 (Int.tmod a2 8))))) = j_ := ⟨_, rfl⟩
                    replace H : (barscanlaw43_PrintingMeans.l1 k1 (wrap64 (Int.tmod a2 8)) (rd t305 x125_1) (Int.tmod x125_1 a0_0) (wrap64 (Int.tdiv x125_1 a0_0)) 255 255 ji99 t305 (t305.length : Int) x125_1 a0_0 a0_1 l0_2 a0_0 a0_1 y291) = some r := by first | (rw [hji99] at H; exact H) | (simp only [hji99] at H ⊢; exact H)
                    have hji99_ : (if 0 < (wrap64 ((wrap64 (Int.tdiv x125_1 a0_0)) - (wrap64 (Int.tmod a2 8)))) then (wrap64 ((wrap64 (Int.tdiv x125_1 a0_0)) - (wrap64 (Int.tmod a2 8)))) else 0) = ji99 := hji99
                    have H' := Aside0.mk H
                    clear H
                    have p334 : 0 ≤ (x125_1 : Int) := of_decide_eq_true (by first | (with_reducible assumption) | assumption)
                    have q334 : x125_1 < (t305.length : Int) := of_decide_eq_true (by first | (with_reducible assumption) | assumption)
                    obtain ⟨ad334, e334, hx334_0⟩ := Kd.at_int (Kd.R_reads' HO_123.out).2.2 x125_1 p334 q334
                    cases e334
                    replace p334 := eq_true p334
                    replace q334 := eq_true q334
                    try go_wp2
                    have n0_ := Aside0.mk (Kd.R_drew HO_123.out)
                    have n1_ := Aside0.mk (Kd.R_drew HO_303002.out)
                    have n2_ := Aside0.mk (Kd.R_drew HO_310002.out)
                    have n3_ := Aside0.mk (Kd.R_drew HO_317002.out)
                    have n4_ := Aside0.mk (Kd.R_drew HO_324002.out)
                    have n5_ := Aside0.mk (Kd.R_drew HO_331002.out)
                    have n6_ := Aside0.mk (blk_drew BK288.out)
                    have n7_ := Aside0.mk (blk_drew BK295.out)
                    have n8_ := Aside0.mk (blk_drew BK302.out)
                    have n9_ := Aside0.mk (blk_drew BK309.out)
                    have n10_ := Aside0.mk (blk_drew BK316.out)
                    have n11_ := Aside0.mk (blk_drew BK323.out)
                    have n12_ := Aside0.mk (blk_drew BK330.out)
                    have n13_ := Aside0.mk (below_drew1 HB.out)
                    clear HO_123
                    clear HO_303002
                    clear HO_310002
                    clear HO_317002
                    clear HO_324002
                    clear HO_331002
                    clear BK288
                    clear BK295
                    clear BK302
                    clear BK309
                    clear BK316
                    clear BK323
                    clear BK330
                    clear HB
                    have HO_123 := n0_
                    have HO_303002 := n1_
                    have HO_310002 := n2_
                    have HO_317002 := n3_
                    have HO_324002 := n4_
                    have HO_331002 := n5_
                    have BK288 := n6_
                    have BK295 := n7_
                    have BK302 := n8_
                    have BK309 := n9_
                    have BK316 := n10_
                    have BK323 := n11_
                    have BK330 := n12_
                    have HB := n13_
                    clear n0_ n1_ n2_ n3_ n4_ n5_ n6_ n7_ n8_ n9_ n10_ n11_ n12_ n13_
                    refine start_ (n := 10) (S := fun w' => w'.cell? ⟨gb288, 0, none⟩ = some (.int .i64 a0_0) ∧ w'.cell? ⟨gb288, 1, none⟩ = some (.int .i64 a0_1) ∧ w'.cell? ⟨gb288, 2, none⟩ = some (.slice A0_2 l0_2.length c0_2)) (ds := []) (bA 10 0) (by kernel_rfl) rfl rfl ⟨(blk_cell BK288.out 0).trans rfl, (blk_cell BK288.out 1).trans rfl, (blk_cell BK288.out 2).trans rfl⟩ (fun hHeld => ?_); refine with_tabW barscanlaw43_PrintingMeans.tab15 barscanlaw43_PrintingMeans.bits15 (fun HT_ HW_ => ?_)
                    generalize wr.drew = w100 at HO_123 HO_303002 HO_310002 HO_317002 HO_324002 HO_331002 BK288 BK295 BK302 BK309 BK316 BK323 BK330 HB hHeld ⊢
                    refine pt HT_ 0 130 ?_
                    refine pt HT_ 1 131 ?_
                    refine pt HT_ 4 134 ?_
                    refine pt HT_ 5 135 ?_
                    refine tk HT_ HW_ hHeld 2 132 ?_
                    refine pt HT_ 3 133 ?_
                    refine pt HT_ 8 23 ?_
                    refine tk HT_ HW_ hHeld 6 136 ?_
                    refine pt HT_ 7 137 ?_
                    refine pt HT_ 9 24 ?_
                    refine done_ (done_of HT_.out (by kernel_rfl)) ?_
                    try go_wp2
                    go_loopg [25, 26, 27] k1 (fun kq v25 v26 v27 w' => ∃ (x25_2 : Int) (x26_2 : Int) (x27_2 : Int), v25 = .int .u8 x25_2 ∧ v26 = .int .u8 x26_2 ∧ v27 = .int .i64 x27_2 ∧ Aside0 (barscanlaw43_PrintingMeans.l1 kq (wrap64 (Int.tmod a2 8)) (rd t305 x125_1) (Int.tmod x125_1 a0_0) (wrap64 (Int.tdiv x125_1 a0_0)) x25_2 x26_2 x27_2 t305 (t305.length : Int) x125_1 a0_0 a0_1 l0_2 a0_0 a0_1 y291 = some r) ∧ Aside0 (kq ≤ k1) ∧ Aside0 (Kd.R (Kd.int .u8) 5 w' w.heap.size (fun k_ => some k_ ≠ ((.slice Ao48 t298.length co48) : Value).ownBlock ∧ some k_ ≠ ((.slice Ao65 t312.length co65) : Value).ownBlock ∧ some k_ ≠ ((.slice Ao85 t326.length co85) : Value).ownBlock) (.slice (some ad334) t305.length co56) t305) ∧ Aside0 (Kd.R (Kd.int .u8) 5 w' w.heap.size (fun k_ => some k_ ≠ ((.slice (some ad334) t305.length co56) : Value).ownBlock ∧ some k_ ≠ ((.slice (some ad334) t305.length co56) : Value).ownBlock ∧ some k_ ≠ ((.slice Ao65 t312.length co65) : Value).ownBlock ∧ some k_ ≠ ((.slice Ao85 t326.length co85) : Value).ownBlock) (.slice Ao48 t298.length co48) t298) ∧ Aside0 (Kd.R (Kd.int .u8) 5 w' w.heap.size (fun k_ => some k_ ≠ ((.slice Ao48 t298.length co48) : Value).ownBlock ∧ some k_ ≠ ((.slice Ao65 t312.length co65) : Value).ownBlock ∧ some k_ ≠ ((.slice Ao85 t326.length co85) : Value).ownBlock) (.slice (some ad334) t305.length co56) t305) ∧ Aside0 (Kd.R (Kd.int .u8) 5 w' w.heap.size (fun k_ => some k_ ≠ ((.slice (some ad334) t305.length co56) : Value).ownBlock ∧ some k_ ≠ ((.slice Ao48 t298.length co48) : Value).ownBlock ∧ some k_ ≠ ((.slice (some ad334) t305.length co56) : Value).ownBlock ∧ some k_ ≠ ((.slice Ao85 t326.length co85) : Value).ownBlock) (.slice Ao65 t312.length co65) t312) ∧ Aside0 (Kd.R Kd.bool 4 w' w.heap.size (fun _ => True) (.slice Ao75 t319.length co75) t319) ∧ Aside0 (Kd.R (Kd.int .u8) 5 w' w.heap.size (fun k_ => some k_ ≠ ((.slice (some ad334) t305.length co56) : Value).ownBlock ∧ some k_ ≠ ((.slice Ao48 t298.length co48) : Value).ownBlock ∧ some k_ ≠ ((.slice (some ad334) t305.length co56) : Value).ownBlock ∧ some k_ ≠ ((.slice Ao65 t312.length co65) : Value).ownBlock) (.slice Ao85 t326.length co85) t326) ∧ Aside0 (w'.heap[gb288]? = some (.cells #[.int .i64 a0_0, .int .i64 a0_1, (.slice A0_2 l0_2.length c0_2)] 33 (0, 0))) ∧ Aside0 (w'.heap[gb295]? = some (.cells #[.int .i64 a0_0, .int .i64 a0_1, (.slice A1 y291.length c1)] 24 (0, 0))) ∧ Aside0 (w'.heap[gb302]? = some (.cells #[.int .i64 t296, .int .i64 t297, (.slice Ao48 t298.length co48)] 24 (0, 0))) ∧ Aside0 (w'.heap[gb309]? = some (.cells #[.int .i64 t303, .int .i64 t304, (.slice (some ad334) t305.length co56)] 24 (0, 0))) ∧ Aside0 (w'.heap[gb316]? = some (.cells #[.int .i64 t310, .int .i64 t311, (.slice Ao65 t312.length co65)] 24 (0, 0))) ∧ Aside0 (w'.heap[gb323]? = some (.cells #[.int .i64 t317, .int .i64 t318, (.slice Ao75 t319.length co75)] 33 (0, 0))) ∧ Aside0 (w'.heap[gb330]? = some (.cells #[.int .i64 t324, .int .i64 t325, (.slice Ao85 t326.length co85)] 24 (0, 0))) ∧ Aside0 (Below w.heap.size w w'))
                    case atStart => exact ⟨(255), (255), (ji99), (by first | rfl | (simp; done) | (simp [*]; done)), (by first | rfl | (simp; done) | (simp [*]; done)), (by first | rfl | (simp; done) | (simp only [← hji99] <;> (first | rfl | simp)) | (simp [*]; done)), H', ⟨Nat.le_refl _⟩, ⟨rkx HO_123⟩, ⟨rkx HO_303002⟩, ⟨rkx HO_310002⟩, ⟨rkx HO_317002⟩, ⟨rkx HO_324002⟩, ⟨rkx HO_331002⟩, ⟨bkx BK288⟩, ⟨bkx BK295⟩, ⟨bkx BK302⟩, ⟨bkx BK309⟩, ⟨bkx BK316⟩, ⟨bkx BK323⟩, ⟨bkx BK330⟩, ⟨hb7 HB GE288 GE295 GE302 GE309 GE316 GE323 GE330⟩⟩
                    case round =>
                     clear H'
                     (try clear c1); (try clear c2); (try clear p2); (try clear c3); (try clear p3); (try clear q3); (try clear hx3); (try clear c4); (try clear c5); (try clear c6); (try clear p6); (try clear c7); (try clear c7b0); (try clear c7b1); (try clear c8); (try clear c9); (try clear c10); (try clear c11); (try clear c14); (try clear c14b0); (try clear c14b1); (try clear c15); (try clear c15b0); (try clear c15b1); (try clear c16); (try clear c17); (try clear c21); (try clear c21b0); (try clear c21b1); (try clear c22); (try clear c22b0); (try clear c22b1); (try clear c23); (try clear c23b0); (try clear c23b1); (try clear c24); (try clear c24b0); (try clear c24b1); (try clear c25); (try clear c25b0); (try clear c25b1); (try clear c27); (try clear c29); (try clear c30); (try clear c30b0); (try clear c30b1); (try clear c30b2); (try clear p33); (try clear q33); (try clear hx33); (try clear q36); (try clear c41); (try clear c45); (try clear c46); (try clear c52); (try clear c53); (try clear c54); (try clear c60); (try clear c61); (try clear c62); (try clear c63); (try clear p64); (try clear c69); (try clear c70); (try clear c71); (try clear c72); (try clear c73); (try clear c78); (try clear c79); (try clear c80); (try clear c81); (try clear c82); (try clear c83); (try clear c94); (try clear c94b0); (try clear c95); (try clear c95b0); (try clear c96); (try clear c96b0); (try clear c97); (try clear c97b0); (try clear c97b1); (try clear c98); (try clear c98b0); (try clear hcz10_0); (try clear hcz10_1); (try clear hcz10_2); (try clear hcz12_0); (try clear hcz12_1); (try clear hcz12_2); (try clear hcz32_0); (try clear hcz32_1); (try clear hcz32_2); (try clear hcz34_0); (try clear hcz34_1); (try clear hcz34_2); (try clear hcz42_0); (try clear hcz42_1); (try clear hcz42_2); (try clear hcz47_0); (try clear hcz47_1); (try clear hcz47_2); (try clear hcz49_0); (try clear hcz49_1); (try clear hcz49_2); (try clear hcz55_0); (try clear hcz55_1); (try clear hcz55_2); (try clear hcz57_0); (try clear hcz57_1); (try clear hcz57_2); (try clear hcz64_0); (try clear hcz64_1); (try clear hcz64_2); (try clear hcz66_0); (try clear hcz66_1); (try clear hcz66_2); (try clear hcz74_0); (try clear hcz74_1); (try clear hcz74_2); (try clear hcz84_0); (try clear hcz84_1); (try clear hcz84_2); (try clear hcz86_0); (try clear hcz86_1); (try clear hcz86_2); (try clear hcz87_0); (try clear hcz87_1); (try clear hcz87_2); (try clear hcz89_0); (try clear hcz89_1); (try clear hcz89_2); (try clear hcz90_0); (try clear hcz90_1); (try clear hcz90_2); (try clear hcz92_0); (try clear hcz92_1); (try clear hcz92_2); (try clear hcz93_0); (try clear hcz93_1); (try clear hcz93_2); (try clear hfz10_0); (try clear hfz10_1); (try clear hfz10_2); (try clear hfz12_0); (try clear hfz12_1); (try clear hfz12_2); (try clear hfz32_0); (try clear hfz32_1); (try clear hfz32_2); (try clear hfz34_0); (try clear hfz34_1); (try clear hfz34_2); (try clear hfz42_0); (try clear hfz42_1); (try clear hfz42_2); (try clear hfz47_0); (try clear hfz47_1); (try clear hfz47_2); (try clear hfz49_0); (try clear hfz49_1); (try clear hfz49_2); (try clear hfz55_0); (try clear hfz55_1); (try clear hfz55_2); (try clear hfz57_0); (try clear hfz57_1); (try clear hfz57_2); (try clear hfz64_0); (try clear hfz64_1); (try clear hfz64_2); (try clear hfz66_0); (try clear hfz66_1); (try clear hfz66_2); (try clear hfz74_0); (try clear hfz74_1); (try clear hfz74_2); (try clear hfz84_0); (try clear hfz84_1); (try clear hfz84_2); (try clear hfz86_0); (try clear hfz86_1); (try clear hfz86_2); (try clear hfz87_0); (try clear hfz87_1); (try clear hfz87_2); (try clear hfz89_0); (try clear hfz89_1); (try clear hfz89_2); (try clear hfz90_0); (try clear hfz90_1); (try clear hfz90_2); (try clear hfz92_0); (try clear hfz92_1); (try clear hfz92_2); (try clear hfz93_0); (try clear hfz93_1); (try clear hfz93_2); (try clear hx334_0); (try clear p2)
                     (try clear p334); (try clear p6); (try clear p64); (try clear q3); (try clear q334); (try clear q36)
                     obtain ⟨x25_2, x26_2, x27_2, rfl, rfl, rfl, HA, HK2, HO_123, HO_303002, HO_310002, HO_317002, HO_324002, HO_331002, BK288, BK295, BK302, BK309, BK316, BK323, BK330, HB⟩ := hrel
                     cases gk with
                     | zero => exact absurd HA.out (by simp [barscanlaw43_PrintingMeans.l1])
                     | succ k2 =>
                      have H := HA.out
                      clear HA
                      simp only [barscanlaw43_PrintingMeans.l1] at H
                      obtain ⟨ji101, hji101⟩ : ∃ j_ : Int, (mn (wrap64 (a0_1 - 1)) (wrap64 ((wrap64 (Int.tdiv x125_1 a0_0)) + (wrap64 (Int.tmod a2 8))))) = j_ := ⟨_, rfl⟩
                      replace H : (if x27_2 ≤ (ji101) then (barscanlaw43_PrintingMeans.l2 k2 (wrap64 (Int.tmod a2 8)) (rd t305 x125_1) (Int.tmod x125_1 a0_0) (wrap64 (Int.tdiv x125_1 a0_0)) x25_2 x26_2 x27_2 (mx 0 (wrap64 ((Int.tmod x125_1 a0_0) - (wrap64 (Int.tmod a2 8))))) t305 (t305.length : Int) x125_1 a0_0 a0_1 l0_2 a0_0 a0_1 y291) else (if (rd t305 x125_1) < x25_2 then (none) else (if (rd t305 x125_1) > x26_2 then (none) else (barscanlaw43_PrintingMeans.l0 k2 (wrap64 (Int.tmod a2 8)) t305 (t305.length : Int) (wrap64 (x125_1 + 1)) a0_0 a0_1 l0_2 a0_0 a0_1 y291)))) = some r := by first | (rw [hji101] at H; exact H) | (simp only [hji101] at H ⊢; exact H)
                      have hji101_ : (if (wrap64 ((wrap64 (Int.tdiv x125_1 a0_0)) + (wrap64 (Int.tmod a2 8)))) < (wrap64 (a0_1 - 1)) then (wrap64 ((wrap64 (Int.tdiv x125_1 a0_0)) + (wrap64 (Int.tmod a2 8)))) else (wrap64 (a0_1 - 1))) = ji101 := hji101
                      by_cases c102 : x27_2 ≤ (ji101)
                      ·rw [if_pos c102] at H
                       have c102b0 : decide (x27_2 ≤ (ji101)) = true := decide_eq_true c102
                       clear c102
                       obtain ⟨ji103, hji103⟩ : ∃ j_ : Int, (mx 0 (wrap64 ((Int.tmod x125_1 a0_0) - (wrap64 (Int.tmod a2 8))))) = j_ := ⟨_, rfl⟩
                       replace H : (barscanlaw43_PrintingMeans.l2 k2 (wrap64 (Int.tmod a2 8)) (rd t305 x125_1) (Int.tmod x125_1 a0_0) (wrap64 (Int.tdiv x125_1 a0_0)) x25_2 x26_2 x27_2 ji103 t305 (t305.length : Int) x125_1 a0_0 a0_1 l0_2 a0_0 a0_1 y291) = some r := by first | (rw [hji103] at H; exact H) | (simp only [hji103] at H ⊢; exact H)
                       have hji103_ : (if 0 < (wrap64 ((Int.tmod x125_1 a0_0) - (wrap64 (Int.tmod a2 8)))) then (wrap64 ((Int.tmod x125_1 a0_0) - (wrap64 (Int.tmod a2 8)))) else 0) = ji103 := hji103
                       have H' := Aside0.mk H
                       clear H
                       have hnb104 := NB288_295.out
                       have hnc104 := NB295_288.out
                       have hnb105 := NB288_302.out
                       have hnc105 := NB302_288.out
                       have hnb106 := NB288_309.out
                       have hnc106 := NB309_288.out
                       have hnb107 := NB288_316.out
                       have hnc107 := NB316_288.out
                       have hnb108 := NB288_323.out
                       have hnc108 := NB323_288.out
                       have hnb109 := NB288_330.out
                       have hnc109 := NB330_288.out
                       have hcz110_0 : wr.cell? ⟨gb288, 0, none⟩ = some (.int .i64 a0_0) := (blk_cell BK288.out 0).trans rfl
                       have hcz110_1 : wr.cell? ⟨gb288, 1, none⟩ = some (.int .i64 a0_1) := (blk_cell BK288.out 1).trans rfl
                       have hcz110_2 : wr.cell? ⟨gb288, 2, none⟩ = some (.slice A0_2 l0_2.length c0_2) := (blk_cell BK288.out 2).trans rfl
                       have hfz110_0 := blk_frozen BK288.out 0
                       have hfz110_1 := blk_frozen BK288.out 1
                       have hfz110_2 := blk_frozen BK288.out 2
                       go_wp2
                       go_loopg [25, 26, 28] k2 (fun kq v25 v26 v28 w' => ∃ (x25_3 : Int) (x26_3 : Int) (x28_3 : Int), v25 = .int .u8 x25_3 ∧ v26 = .int .u8 x26_3 ∧ v28 = .int .i64 x28_3 ∧ Aside0 (barscanlaw43_PrintingMeans.l2 kq (wrap64 (Int.tmod a2 8)) (rd t305 x125_1) (Int.tmod x125_1 a0_0) (wrap64 (Int.tdiv x125_1 a0_0)) x25_3 x26_3 x27_2 x28_3 t305 (t305.length : Int) x125_1 a0_0 a0_1 l0_2 a0_0 a0_1 y291 = some r) ∧ Aside0 (kq ≤ k2) ∧ Aside0 (Kd.R (Kd.int .u8) 5 w' w.heap.size (fun k_ => some k_ ≠ ((.slice Ao48 t298.length co48) : Value).ownBlock ∧ some k_ ≠ ((.slice Ao65 t312.length co65) : Value).ownBlock ∧ some k_ ≠ ((.slice Ao85 t326.length co85) : Value).ownBlock) (.slice (some ad334) t305.length co56) t305) ∧ Aside0 (Kd.R (Kd.int .u8) 5 w' w.heap.size (fun k_ => some k_ ≠ ((.slice (some ad334) t305.length co56) : Value).ownBlock ∧ some k_ ≠ ((.slice (some ad334) t305.length co56) : Value).ownBlock ∧ some k_ ≠ ((.slice Ao65 t312.length co65) : Value).ownBlock ∧ some k_ ≠ ((.slice Ao85 t326.length co85) : Value).ownBlock) (.slice Ao48 t298.length co48) t298) ∧ Aside0 (Kd.R (Kd.int .u8) 5 w' w.heap.size (fun k_ => some k_ ≠ ((.slice Ao48 t298.length co48) : Value).ownBlock ∧ some k_ ≠ ((.slice Ao65 t312.length co65) : Value).ownBlock ∧ some k_ ≠ ((.slice Ao85 t326.length co85) : Value).ownBlock) (.slice (some ad334) t305.length co56) t305) ∧ Aside0 (Kd.R (Kd.int .u8) 5 w' w.heap.size (fun k_ => some k_ ≠ ((.slice (some ad334) t305.length co56) : Value).ownBlock ∧ some k_ ≠ ((.slice Ao48 t298.length co48) : Value).ownBlock ∧ some k_ ≠ ((.slice (some ad334) t305.length co56) : Value).ownBlock ∧ some k_ ≠ ((.slice Ao85 t326.length co85) : Value).ownBlock) (.slice Ao65 t312.length co65) t312) ∧ Aside0 (Kd.R Kd.bool 4 w' w.heap.size (fun _ => True) (.slice Ao75 t319.length co75) t319) ∧ Aside0 (Kd.R (Kd.int .u8) 5 w' w.heap.size (fun k_ => some k_ ≠ ((.slice (some ad334) t305.length co56) : Value).ownBlock ∧ some k_ ≠ ((.slice Ao48 t298.length co48) : Value).ownBlock ∧ some k_ ≠ ((.slice (some ad334) t305.length co56) : Value).ownBlock ∧ some k_ ≠ ((.slice Ao65 t312.length co65) : Value).ownBlock) (.slice Ao85 t326.length co85) t326) ∧ Aside0 (w'.heap[gb288]? = some (.cells #[.int .i64 a0_0, .int .i64 a0_1, (.slice A0_2 l0_2.length c0_2)] 33 (0, 0))) ∧ Aside0 (w'.heap[gb295]? = some (.cells #[.int .i64 a0_0, .int .i64 a0_1, (.slice A1 y291.length c1)] 24 (0, 0))) ∧ Aside0 (w'.heap[gb302]? = some (.cells #[.int .i64 t296, .int .i64 t297, (.slice Ao48 t298.length co48)] 24 (0, 0))) ∧ Aside0 (w'.heap[gb309]? = some (.cells #[.int .i64 t303, .int .i64 t304, (.slice (some ad334) t305.length co56)] 24 (0, 0))) ∧ Aside0 (w'.heap[gb316]? = some (.cells #[.int .i64 t310, .int .i64 t311, (.slice Ao65 t312.length co65)] 24 (0, 0))) ∧ Aside0 (w'.heap[gb323]? = some (.cells #[.int .i64 t317, .int .i64 t318, (.slice Ao75 t319.length co75)] 33 (0, 0))) ∧ Aside0 (w'.heap[gb330]? = some (.cells #[.int .i64 t324, .int .i64 t325, (.slice Ao85 t326.length co85)] 24 (0, 0))) ∧ Aside0 (Below w.heap.size w w'))
                       case atStart => exact ⟨(x25_2), (x26_2), (ji103), (by first | rfl | (simp; done) | (simp [*]; done)), (by first | rfl | (simp; done) | (simp [*]; done)), (by first | rfl | (simp; done) | (simp only [← hji103] <;> (first | rfl | simp)) | (simp [*]; done)), H', ⟨Nat.le_refl _⟩, ⟨rkx HO_123⟩, ⟨rkx HO_303002⟩, ⟨rkx HO_310002⟩, ⟨rkx HO_317002⟩, ⟨rkx HO_324002⟩, ⟨rkx HO_331002⟩, ⟨bkx BK288⟩, ⟨bkx BK295⟩, ⟨bkx BK302⟩, ⟨bkx BK309⟩, ⟨bkx BK316⟩, ⟨bkx BK323⟩, ⟨bkx BK330⟩, ⟨hb7 HB GE288 GE295 GE302 GE309 GE316 GE323 GE330⟩⟩
                       case round =>
                        clear H'
                        (try clear c1); (try clear c2); (try clear p2); (try clear c3); (try clear p3); (try clear q3); (try clear hx3); (try clear c4); (try clear c5); (try clear c6); (try clear p6); (try clear c7); (try clear c7b0); (try clear c7b1); (try clear c8); (try clear c9); (try clear c10); (try clear c11); (try clear c14); (try clear c14b0); (try clear c14b1); (try clear c15); (try clear c15b0); (try clear c15b1); (try clear c16); (try clear c17); (try clear c21); (try clear c21b0); (try clear c21b1); (try clear c22); (try clear c22b0); (try clear c22b1); (try clear c23); (try clear c23b0); (try clear c23b1); (try clear c24); (try clear c24b0); (try clear c24b1); (try clear c25); (try clear c25b0); (try clear c25b1); (try clear c27); (try clear c29); (try clear c30); (try clear c30b0); (try clear c30b1); (try clear c30b2); (try clear p33); (try clear q33); (try clear hx33); (try clear q36); (try clear c41); (try clear c45); (try clear c46); (try clear c52); (try clear c53); (try clear c54); (try clear c60); (try clear c61); (try clear c62); (try clear c63); (try clear p64); (try clear c69); (try clear c70); (try clear c71); (try clear c72); (try clear c73); (try clear c78); (try clear c79); (try clear c80); (try clear c81); (try clear c82); (try clear c83); (try clear c94); (try clear c94b0); (try clear c95); (try clear c95b0); (try clear c96); (try clear c96b0); (try clear c97); (try clear c97b0); (try clear c97b1); (try clear c98); (try clear c98b0); (try clear c102); (try clear c102b0); (try clear c104); (try clear c105); (try clear c106); (try clear c107); (try clear c108); (try clear c109); (try clear hcz10_0); (try clear hcz10_1); (try clear hcz10_2); (try clear hcz110_0); (try clear hcz110_1); (try clear hcz110_2); (try clear hcz12_0); (try clear hcz12_1); (try clear hcz12_2); (try clear hcz32_0); (try clear hcz32_1); (try clear hcz32_2); (try clear hcz34_0); (try clear hcz34_1); (try clear hcz34_2); (try clear hcz42_0); (try clear hcz42_1); (try clear hcz42_2); (try clear hcz47_0); (try clear hcz47_1); (try clear hcz47_2); (try clear hcz49_0); (try clear hcz49_1); (try clear hcz49_2); (try clear hcz55_0); (try clear hcz55_1); (try clear hcz55_2); (try clear hcz57_0); (try clear hcz57_1); (try clear hcz57_2); (try clear hcz64_0); (try clear hcz64_1); (try clear hcz64_2); (try clear hcz66_0); (try clear hcz66_1); (try clear hcz66_2); (try clear hcz74_0); (try clear hcz74_1); (try clear hcz74_2); (try clear hcz84_0); (try clear hcz84_1); (try clear hcz84_2); (try clear hcz86_0); (try clear hcz86_1); (try clear hcz86_2); (try clear hcz87_0); (try clear hcz87_1); (try clear hcz87_2); (try clear hcz89_0); (try clear hcz89_1); (try clear hcz89_2); (try clear hcz90_0); (try clear hcz90_1); (try clear hcz90_2); (try clear hcz92_0); (try clear hcz92_1); (try clear hcz92_2); (try clear hcz93_0); (try clear hcz93_1); (try clear hcz93_2); (try clear hfz10_0); (try clear hfz10_1); (try clear hfz10_2); (try clear hfz110_0); (try clear hfz110_1); (try clear hfz110_2); (try clear hfz12_0); (try clear hfz12_1); (try clear hfz12_2); (try clear hfz32_0); (try clear hfz32_1); (try clear hfz32_2); (try clear hfz34_0); (try clear hfz34_1); (try clear hfz34_2); (try clear hfz42_0); (try clear hfz42_1); (try clear hfz42_2); (try clear hfz47_0); (try clear hfz47_1); (try clear hfz47_2); (try clear hfz49_0); (try clear hfz49_1); (try clear hfz49_2); (try clear hfz55_0); (try clear hfz55_1); (try clear hfz55_2); (try clear hfz57_0); (try clear hfz57_1); (try clear hfz57_2); (try clear hfz64_0); (try clear hfz64_1); (try clear hfz64_2); (try clear hfz66_0); (try clear hfz66_1); (try clear hfz66_2); (try clear hfz74_0); (try clear hfz74_1); (try clear hfz74_2); (try clear hfz84_0); (try clear hfz84_1); (try clear hfz84_2); (try clear hfz86_0); (try clear hfz86_1); (try clear hfz86_2); (try clear hfz87_0); (try clear hfz87_1); (try clear hfz87_2)
                        (try clear hfz89_0); (try clear hfz89_1); (try clear hfz89_2); (try clear hfz90_0); (try clear hfz90_1); (try clear hfz90_2); (try clear hfz92_0); (try clear hfz92_1); (try clear hfz92_2); (try clear hfz93_0); (try clear hfz93_1); (try clear hfz93_2); (try clear hx334_0); (try clear p2); (try clear p3); (try clear p33); (try clear p334); (try clear p6); (try clear p64); (try clear q3); (try clear q33); (try clear q334); (try clear q36)
                        obtain ⟨x25_3, x26_3, x28_3, rfl, rfl, rfl, HA, HK3, HO_123, HO_303002, HO_310002, HO_317002, HO_324002, HO_331002, BK288, BK295, BK302, BK309, BK316, BK323, BK330, HB⟩ := hrel
                        cases gk with
                        | zero => exact absurd HA.out (by simp [barscanlaw43_PrintingMeans.l2])
                        | succ k3 =>
                         have H := HA.out
                         clear HA
                         simp only [barscanlaw43_PrintingMeans.l2] at H
                         obtain ⟨ji111, hji111⟩ : ∃ j_ : Int, (mn (wrap64 (a0_0 - 1)) (wrap64 ((Int.tmod x125_1 a0_0) + (wrap64 (Int.tmod a2 8))))) = j_ := ⟨_, rfl⟩
                         replace H : (if x28_3 ≤ (ji111) then (if 0 ≤ (wrap64 ((wrap64 (x27_2 * a0_0)) + x28_3)) then (if (wrap64 ((wrap64 (x27_2 * a0_0)) + x28_3)) < (y291.length : Int) then (barscanlaw43_PrintingMeans.l2 k3 (wrap64 (Int.tmod a2 8)) (rd t305 x125_1) (Int.tmod x125_1 a0_0) (wrap64 (Int.tdiv x125_1 a0_0)) (mn x25_3 (rd y291 (wrap64 ((wrap64 (x27_2 * a0_0)) + x28_3)))) (mx x26_3 (rd y291 (wrap64 ((wrap64 (x27_2 * a0_0)) + x28_3)))) x27_2 (wrap64 (x28_3 + 1)) t305 (t305.length : Int) x125_1 a0_0 a0_1 l0_2 a0_0 a0_1 y291) else (none)) else (none)) else (barscanlaw43_PrintingMeans.l1 k3 (wrap64 (Int.tmod a2 8)) (rd t305 x125_1) (Int.tmod x125_1 a0_0) (wrap64 (Int.tdiv x125_1 a0_0)) x25_3 x26_3 (wrap64 (x27_2 + 1)) t305 (t305.length : Int) x125_1 a0_0 a0_1 l0_2 a0_0 a0_1 y291)) = some r := by first | (rw [hji111] at H; exact H) | (simp only [hji111] at H ⊢; exact H)
                         have hji111_ : (if (wrap64 ((Int.tmod x125_1 a0_0) + (wrap64 (Int.tmod a2 8)))) < (wrap64 (a0_0 - 1)) then (wrap64 ((Int.tmod x125_1 a0_0) + (wrap64 (Int.tmod a2 8)))) else (wrap64 (a0_0 - 1))) = ji111 := hji111
                         by_cases c112 : x28_3 ≤ (ji111)
                         ·rw [if_pos c112] at H
                          have c112b0 : decide (x28_3 ≤ (ji111)) = true := decide_eq_true c112
                          clear c112
                          obtain ⟨ji113, hji113⟩ : ∃ j_ : Int, (wrap64 ((wrap64 (x27_2 * a0_0)) + x28_3)) = j_ := ⟨_, rfl⟩
                          replace H : (if 0 ≤ (ji113) then (if (ji113) < (y291.length : Int) then (barscanlaw43_PrintingMeans.l2 k3 (wrap64 (Int.tmod a2 8)) (rd t305 x125_1) (Int.tmod x125_1 a0_0) (wrap64 (Int.tdiv x125_1 a0_0)) (mn x25_3 (rd y291 (ji113))) (mx x26_3 (rd y291 (ji113))) x27_2 (wrap64 (x28_3 + 1)) t305 (t305.length : Int) x125_1 a0_0 a0_1 l0_2 a0_0 a0_1 y291) else (none)) else (none)) = some r := by first | (rw [hji113] at H; exact H) | (simp only [hji113] at H ⊢; exact H)
                          have hji113w : (IntKind.i64.wrap ((wrap64 (x27_2 * a0_0)) + x28_3)) = ji113 := (i64_w _).trans hji113
                          by_cases c114 : 0 ≤ (ji113)
                          ·rw [if_pos c114] at H
                           have c114b0 : decide (0 ≤ (ji113)) = true := decide_eq_true c114
                           clear c114
                           by_cases c115 : (ji113) < (y291.length : Int)
                           ·rw [if_pos c115] at H
                            have c115b0 : decide ((ji113) < (y291.length : Int)) = true := decide_eq_true c115
                            clear c115
                            obtain ⟨ji116, hji116⟩ : ∃ j_ : Int, (mn x25_3 (rd y291 (ji113))) = j_ := ⟨_, rfl⟩
                            replace H : (barscanlaw43_PrintingMeans.l2 k3 (wrap64 (Int.tmod a2 8)) (rd t305 x125_1) (Int.tmod x125_1 a0_0) (wrap64 (Int.tdiv x125_1 a0_0)) ji116 (mx x26_3 (rd y291 (ji113))) x27_2 (wrap64 (x28_3 + 1)) t305 (t305.length : Int) x125_1 a0_0 a0_1 l0_2 a0_0 a0_1 y291) = some r := by first | (rw [hji116] at H; exact H) | (simp only [hji116] at H ⊢; exact H)
                            have hji116_ : (if (rd y291 (ji113)) < x25_3 then (rd y291 (ji113)) else x25_3) = ji116 := hji116
                            obtain ⟨ji117, hji117⟩ : ∃ j_ : Int, (mx x26_3 (rd y291 (ji113))) = j_ := ⟨_, rfl⟩
                            replace H : (barscanlaw43_PrintingMeans.l2 k3 (wrap64 (Int.tmod a2 8)) (rd t305 x125_1) (Int.tmod x125_1 a0_0) (wrap64 (Int.tdiv x125_1 a0_0)) ji116 ji117 x27_2 (wrap64 (x28_3 + 1)) t305 (t305.length : Int) x125_1 a0_0 a0_1 l0_2 a0_0 a0_1 y291) = some r := by first | (rw [hji117] at H; exact H) | (simp only [hji117] at H ⊢; exact H)
                            have hji117_ : (if x26_3 < (rd y291 (ji113)) then (rd y291 (ji113)) else x26_3) = ji117 := hji117
                            have H' := Aside0.mk H
                            clear H
                            have hnb118 := NB288_295.out
                            have hnc118 := NB295_288.out
                            have hnb119 := NB288_302.out
                            have hnc119 := NB302_288.out
                            have hnb120 := NB288_309.out
                            have hnc120 := NB309_288.out
                            have hnb121 := NB288_316.out
                            have hnc121 := NB316_288.out
                            have hnb122 := NB288_323.out
                            have hnc122 := NB323_288.out
                            have hnb123 := NB288_330.out
                            have hnc123 := NB330_288.out
                            have hcz124_0 : wr.cell? ⟨gb288, 0, none⟩ = some (.int .i64 a0_0) := (blk_cell BK288.out 0).trans rfl
                            have hcz124_1 : wr.cell? ⟨gb288, 1, none⟩ = some (.int .i64 a0_1) := (blk_cell BK288.out 1).trans rfl
                            have hcz124_2 : wr.cell? ⟨gb288, 2, none⟩ = some (.slice A0_2 l0_2.length c0_2) := (blk_cell BK288.out 2).trans rfl
                            have hfz124_0 := blk_frozen BK288.out 0
                            have hfz124_1 := blk_frozen BK288.out 1
                            have hfz124_2 := blk_frozen BK288.out 2
                            have hnb125 := NB295_302.out
                            have hnc125 := NB302_295.out
                            have hnb126 := NB295_309.out
                            have hnc126 := NB309_295.out
                            have hnb127 := NB295_316.out
                            have hnc127 := NB316_295.out
                            have hnb128 := NB295_323.out
                            have hnc128 := NB323_295.out
                            have hnb129 := NB295_330.out
                            have hnc129 := NB330_295.out
                            have hcz130_0 : wr.cell? ⟨gb295, 0, none⟩ = some (.int .i64 a0_0) := (blk_cell BK295.out 0).trans rfl
                            have hcz130_1 : wr.cell? ⟨gb295, 1, none⟩ = some (.int .i64 a0_1) := (blk_cell BK295.out 1).trans rfl
                            have hcz130_2 : wr.cell? ⟨gb295, 2, none⟩ = some (.slice A1 y291.length c1) := (blk_cell BK295.out 2).trans rfl
                            have hfz130_0 := blk_frozen BK295.out 0
                            have hfz130_1 := blk_frozen BK295.out 1
                            have hfz130_2 := blk_frozen BK295.out 2
                            have p335 : 0 ≤ ((ji113) : Int) := of_decide_eq_true (by first | (with_reducible assumption) | assumption)
                            have q335 : (ji113) < (y291.length : Int) := of_decide_eq_true (by first | (with_reducible assumption) | assumption)
                            obtain ⟨ad335, e335, hx335_0⟩ := Kd.at_int HR294.out (ji113) p335 q335
                            cases e335
                            replace hx335_0 := (HB.out.cell (World.block_lt_of_cell? w _ hx335_0)).trans hx335_0
                            replace p335 := eq_true p335
                            replace q335 := eq_true q335
                            have p336 : 0 ≤ ((ji113) : Int) := of_decide_eq_true (by first | (with_reducible assumption) | assumption)
                            have q336 : (ji113) < (y291.length : Int) := of_decide_eq_true (by first | (with_reducible assumption) | assumption)
                            obtain ⟨ad336, e336, hx336_0⟩ := Kd.at_int HR294.out (ji113) p336 q336
                            obtain rfl : ad335 = ad336 := (by injection e336)
                            replace hx336_0 := (HB.out.cell (World.block_lt_of_cell? w _ hx336_0)).trans hx336_0
                            replace p336 := eq_true p336
                            replace q336 := eq_true q336
                            go_wp2
                            go_roundg k3
                            case measure => have := HK1.out; have := HK2.out; have := HK3.out; omega
                            case rel => exact ⟨(ji116), (ji117), (wrap64 (x28_3 + 1)), (by first | rfl | (simp; done) | (simp only [← hji116] <;> (first | rfl | simp)) | (simp [*]; done)), (by first | rfl | (simp; done) | (simp only [← hji117] <;> (first | rfl | simp)) | (simp [*]; done)), (by first | rfl | (simp; done) | (simp [*]; done)), H', ⟨by have := HK1.out; have := HK2.out; have := HK3.out; omega⟩, ⟨rkx HO_123⟩, ⟨rkx HO_303002⟩, ⟨rkx HO_310002⟩, ⟨rkx HO_317002⟩, ⟨rkx HO_324002⟩, ⟨rkx HO_331002⟩, ⟨bkx BK288⟩, ⟨bkx BK295⟩, ⟨bkx BK302⟩, ⟨bkx BK309⟩, ⟨bkx BK316⟩, ⟨bkx BK323⟩, ⟨bkx BK330⟩, ⟨hb7 HB GE288 GE295 GE302 GE309 GE316 GE323 GE330⟩⟩
                           ·rw [if_neg c115] at H
                            exact absurd H (by simp)
                          ·rw [if_neg c114] at H
                           exact absurd H (by simp)
                         ·rw [if_neg c112] at H
                          have c112b0 : decide (x28_3 ≤ (ji111)) = false := decide_eq_false c112
                          clear c112
                          have H' := Aside0.mk H
                          clear H
                          have hnb131 := NB288_295.out
                          have hnc131 := NB295_288.out
                          have hnb132 := NB288_302.out
                          have hnc132 := NB302_288.out
                          have hnb133 := NB288_309.out
                          have hnc133 := NB309_288.out
                          have hnb134 := NB288_316.out
                          have hnc134 := NB316_288.out
                          have hnb135 := NB288_323.out
                          have hnc135 := NB323_288.out
                          have hnb136 := NB288_330.out
                          have hnc136 := NB330_288.out
                          have hcz137_0 : wr.cell? ⟨gb288, 0, none⟩ = some (.int .i64 a0_0) := (blk_cell BK288.out 0).trans rfl
                          have hcz137_1 : wr.cell? ⟨gb288, 1, none⟩ = some (.int .i64 a0_1) := (blk_cell BK288.out 1).trans rfl
                          have hcz137_2 : wr.cell? ⟨gb288, 2, none⟩ = some (.slice A0_2 l0_2.length c0_2) := (blk_cell BK288.out 2).trans rfl
                          have hfz137_0 := blk_frozen BK288.out 0
                          have hfz137_1 := blk_frozen BK288.out 1
                          have hfz137_2 := blk_frozen BK288.out 2
                          go_wp2
                          go_roundg k3
                          case measure => have := HK1.out; have := HK2.out; have := HK3.out; omega
                          case rel => exact ⟨(x25_3), (x26_3), (wrap64 (x27_2 + 1)), (by first | rfl | (simp; done) | (simp [*]; done)), (by first | rfl | (simp; done) | (simp [*]; done)), (by first | rfl | (simp; done) | (simp [*]; done)), H', ⟨by have := HK1.out; have := HK2.out; have := HK3.out; omega⟩, ⟨rkx HO_123⟩, ⟨rkx HO_303002⟩, ⟨rkx HO_310002⟩, ⟨rkx HO_317002⟩, ⟨rkx HO_324002⟩, ⟨rkx HO_331002⟩, ⟨bkx BK288⟩, ⟨bkx BK295⟩, ⟨bkx BK302⟩, ⟨bkx BK309⟩, ⟨bkx BK316⟩, ⟨bkx BK323⟩, ⟨bkx BK330⟩, ⟨hb7 HB GE288 GE295 GE302 GE309 GE316 GE323 GE330⟩⟩
                      ·rw [if_neg c102] at H
                       have c102b0 : decide (x27_2 ≤ (ji101)) = false := decide_eq_false c102
                       clear c102
                       by_cases c138 : (rd t305 x125_1) < x25_2
                       ·rw [if_pos c138] at H
                        exact absurd H (by simp)
                       ·rw [if_neg c138] at H
                        have c138b0 : decide ((rd t305 x125_1) < x25_2) = false := decide_eq_false c138
                        clear c138
                        by_cases c139 : (rd t305 x125_1) > x26_2
                        ·rw [if_pos c139] at H
                         exact absurd H (by simp)
                        ·rw [if_neg c139] at H
                         have c139b0 : decide (x26_2 < (rd t305 x125_1)) = false := decide_eq_false c139
                         clear c139
                         have H' := Aside0.mk H
                         clear H
                         have hnb140 := NB288_295.out
                         have hnc140 := NB295_288.out
                         have hnb141 := NB288_302.out
                         have hnc141 := NB302_288.out
                         have hnb142 := NB288_309.out
                         have hnc142 := NB309_288.out
                         have hnb143 := NB288_316.out
                         have hnc143 := NB316_288.out
                         have hnb144 := NB288_323.out
                         have hnc144 := NB323_288.out
                         have hnb145 := NB288_330.out
                         have hnc145 := NB330_288.out
                         have hcz146_0 : wr.cell? ⟨gb288, 0, none⟩ = some (.int .i64 a0_0) := (blk_cell BK288.out 0).trans rfl
                         have hcz146_1 : wr.cell? ⟨gb288, 1, none⟩ = some (.int .i64 a0_1) := (blk_cell BK288.out 1).trans rfl
                         have hcz146_2 : wr.cell? ⟨gb288, 2, none⟩ = some (.slice A0_2 l0_2.length c0_2) := (blk_cell BK288.out 2).trans rfl
                         have hfz146_0 := blk_frozen BK288.out 0
                         have hfz146_1 := blk_frozen BK288.out 1
                         have hfz146_2 := blk_frozen BK288.out 2
                         go_wp2
                         go_roundg k2
                         case measure => have := HK1.out; have := HK2.out; omega
                         case rel => exact ⟨(wrap64 (x125_1 + 1)), (by first | rfl | (simp; done) | (simp [*]; done)), H', ⟨by have := HK1.out; have := HK2.out; omega⟩, ⟨rkx HO_123⟩, ⟨rkx HO_303002⟩, ⟨rkx HO_310002⟩, ⟨rkx HO_317002⟩, ⟨rkx HO_324002⟩, ⟨rkx HO_331002⟩, ⟨bkx BK288⟩, ⟨bkx BK295⟩, ⟨bkx BK302⟩, ⟨bkx BK309⟩, ⟨bkx BK316⟩, ⟨bkx BK323⟩, ⟨bkx BK330⟩, ⟨hb7 HB GE288 GE295 GE302 GE309 GE316 GE323 GE330⟩⟩
                   ·rw [if_neg c98] at H
                    have c98b0 : decide ((Int.tmod x125_1 a0_0) < (wrap64 (Int.tmod a2 8))) = false := decide_eq_false c98
                    clear c98
                    by_cases c147 : (wrap64 (Int.tdiv x125_1 a0_0)) < (wrap64 (Int.tmod a2 8))
                    ·rw [if_pos c147] at H
                     have c147b0 : decide ((wrap64 (Int.tdiv x125_1 a0_0)) < (wrap64 (Int.tmod a2 8))) = true := decide_eq_true c147
                     clear c147
                     obtain ⟨ji148, hji148⟩ : ∃ j_ : Int, (mx 0 (wrap64 ((wrap64 (Int.tdiv x125_1 a0_0)) - (wrap64 (Int.tmod a2 8))))) = j_ := ⟨_, rfl⟩
                     replace H : (barscanlaw43_PrintingMeans.l1 k1 (wrap64 (Int.tmod a2 8)) (rd t305 x125_1) (Int.tmod x125_1 a0_0) (wrap64 (Int.tdiv x125_1 a0_0)) 255 255 ji148 t305 (t305.length : Int) x125_1 a0_0 a0_1 l0_2 a0_0 a0_1 y291) = some r := by first | (rw [hji148] at H; exact H) | (simp only [hji148] at H ⊢; exact H)
                     have hji148_ : (if 0 < (wrap64 ((wrap64 (Int.tdiv x125_1 a0_0)) - (wrap64 (Int.tmod a2 8)))) then (wrap64 ((wrap64 (Int.tdiv x125_1 a0_0)) - (wrap64 (Int.tmod a2 8)))) else 0) = ji148 := hji148
                     have H' := Aside0.mk H
                     clear H
                     have p334 : 0 ≤ (x125_1 : Int) := of_decide_eq_true (by first | (with_reducible assumption) | assumption)
                     have q334 : x125_1 < (t305.length : Int) := of_decide_eq_true (by first | (with_reducible assumption) | assumption)
                     obtain ⟨ad334, e334, hx334_0⟩ := Kd.at_int (Kd.R_reads' HO_123.out).2.2 x125_1 p334 q334
                     cases e334
                     replace p334 := eq_true p334
                     replace q334 := eq_true q334
                     try go_wp2
                     have n0_ := Aside0.mk (Kd.R_drew HO_123.out)
                     have n1_ := Aside0.mk (Kd.R_drew HO_303002.out)
                     have n2_ := Aside0.mk (Kd.R_drew HO_310002.out)
                     have n3_ := Aside0.mk (Kd.R_drew HO_317002.out)
                     have n4_ := Aside0.mk (Kd.R_drew HO_324002.out)
                     have n5_ := Aside0.mk (Kd.R_drew HO_331002.out)
                     have n6_ := Aside0.mk (blk_drew BK288.out)
                     have n7_ := Aside0.mk (blk_drew BK295.out)
                     have n8_ := Aside0.mk (blk_drew BK302.out)
                     have n9_ := Aside0.mk (blk_drew BK309.out)
                     have n10_ := Aside0.mk (blk_drew BK316.out)
                     have n11_ := Aside0.mk (blk_drew BK323.out)
                     have n12_ := Aside0.mk (blk_drew BK330.out)
                     have n13_ := Aside0.mk (below_drew1 HB.out)
                     clear HO_123
                     clear HO_303002
                     clear HO_310002
                     clear HO_317002
                     clear HO_324002
                     clear HO_331002
                     clear BK288
                     clear BK295
                     clear BK302
                     clear BK309
                     clear BK316
                     clear BK323
                     clear BK330
                     clear HB
                     have HO_123 := n0_
                     have HO_303002 := n1_
                     have HO_310002 := n2_
                     have HO_317002 := n3_
                     have HO_324002 := n4_
                     have HO_331002 := n5_
                     have BK288 := n6_
                     have BK295 := n7_
                     have BK302 := n8_
                     have BK309 := n9_
                     have BK316 := n10_
                     have BK323 := n11_
                     have BK330 := n12_
                     have HB := n13_
                     clear n0_ n1_ n2_ n3_ n4_ n5_ n6_ n7_ n8_ n9_ n10_ n11_ n12_ n13_
                     refine start_ (n := 10) (S := fun w' => w'.cell? ⟨gb288, 0, none⟩ = some (.int .i64 a0_0) ∧ w'.cell? ⟨gb288, 1, none⟩ = some (.int .i64 a0_1) ∧ w'.cell? ⟨gb288, 2, none⟩ = some (.slice A0_2 l0_2.length c0_2)) (ds := []) (bA 10 0) (by kernel_rfl) rfl rfl ⟨(blk_cell BK288.out 0).trans rfl, (blk_cell BK288.out 1).trans rfl, (blk_cell BK288.out 2).trans rfl⟩ (fun hHeld => ?_); refine with_tabW barscanlaw43_PrintingMeans.tab15 barscanlaw43_PrintingMeans.bits15 (fun HT_ HW_ => ?_)
                     generalize wr.drew = w149 at HO_123 HO_303002 HO_310002 HO_317002 HO_324002 HO_331002 BK288 BK295 BK302 BK309 BK316 BK323 BK330 HB hHeld ⊢
                     refine pt HT_ 0 130 ?_
                     refine pt HT_ 1 131 ?_
                     refine pt HT_ 4 134 ?_
                     refine pt HT_ 5 135 ?_
                     refine tk HT_ HW_ hHeld 2 132 ?_
                     refine pt HT_ 3 133 ?_
                     refine pt HT_ 8 23 ?_
                     refine tk HT_ HW_ hHeld 6 136 ?_
                     refine pt HT_ 7 137 ?_
                     refine pt HT_ 9 24 ?_
                     refine done_ (done_of HT_.out (by kernel_rfl)) ?_
                     try go_wp2
                     go_loopg [25, 26, 27] k1 (fun kq v25 v26 v27 w' => ∃ (x25_2 : Int) (x26_2 : Int) (x27_2 : Int), v25 = .int .u8 x25_2 ∧ v26 = .int .u8 x26_2 ∧ v27 = .int .i64 x27_2 ∧ Aside0 (barscanlaw43_PrintingMeans.l1 kq (wrap64 (Int.tmod a2 8)) (rd t305 x125_1) (Int.tmod x125_1 a0_0) (wrap64 (Int.tdiv x125_1 a0_0)) x25_2 x26_2 x27_2 t305 (t305.length : Int) x125_1 a0_0 a0_1 l0_2 a0_0 a0_1 y291 = some r) ∧ Aside0 (kq ≤ k1) ∧ Aside0 (Kd.R (Kd.int .u8) 5 w' w.heap.size (fun k_ => some k_ ≠ ((.slice Ao48 t298.length co48) : Value).ownBlock ∧ some k_ ≠ ((.slice Ao65 t312.length co65) : Value).ownBlock ∧ some k_ ≠ ((.slice Ao85 t326.length co85) : Value).ownBlock) (.slice (some ad334) t305.length co56) t305) ∧ Aside0 (Kd.R (Kd.int .u8) 5 w' w.heap.size (fun k_ => some k_ ≠ ((.slice (some ad334) t305.length co56) : Value).ownBlock ∧ some k_ ≠ ((.slice (some ad334) t305.length co56) : Value).ownBlock ∧ some k_ ≠ ((.slice Ao65 t312.length co65) : Value).ownBlock ∧ some k_ ≠ ((.slice Ao85 t326.length co85) : Value).ownBlock) (.slice Ao48 t298.length co48) t298) ∧ Aside0 (Kd.R (Kd.int .u8) 5 w' w.heap.size (fun k_ => some k_ ≠ ((.slice Ao48 t298.length co48) : Value).ownBlock ∧ some k_ ≠ ((.slice Ao65 t312.length co65) : Value).ownBlock ∧ some k_ ≠ ((.slice Ao85 t326.length co85) : Value).ownBlock) (.slice (some ad334) t305.length co56) t305) ∧ Aside0 (Kd.R (Kd.int .u8) 5 w' w.heap.size (fun k_ => some k_ ≠ ((.slice (some ad334) t305.length co56) : Value).ownBlock ∧ some k_ ≠ ((.slice Ao48 t298.length co48) : Value).ownBlock ∧ some k_ ≠ ((.slice (some ad334) t305.length co56) : Value).ownBlock ∧ some k_ ≠ ((.slice Ao85 t326.length co85) : Value).ownBlock) (.slice Ao65 t312.length co65) t312) ∧ Aside0 (Kd.R Kd.bool 4 w' w.heap.size (fun _ => True) (.slice Ao75 t319.length co75) t319) ∧ Aside0 (Kd.R (Kd.int .u8) 5 w' w.heap.size (fun k_ => some k_ ≠ ((.slice (some ad334) t305.length co56) : Value).ownBlock ∧ some k_ ≠ ((.slice Ao48 t298.length co48) : Value).ownBlock ∧ some k_ ≠ ((.slice (some ad334) t305.length co56) : Value).ownBlock ∧ some k_ ≠ ((.slice Ao65 t312.length co65) : Value).ownBlock) (.slice Ao85 t326.length co85) t326) ∧ Aside0 (w'.heap[gb288]? = some (.cells #[.int .i64 a0_0, .int .i64 a0_1, (.slice A0_2 l0_2.length c0_2)] 33 (0, 0))) ∧ Aside0 (w'.heap[gb295]? = some (.cells #[.int .i64 a0_0, .int .i64 a0_1, (.slice A1 y291.length c1)] 24 (0, 0))) ∧ Aside0 (w'.heap[gb302]? = some (.cells #[.int .i64 t296, .int .i64 t297, (.slice Ao48 t298.length co48)] 24 (0, 0))) ∧ Aside0 (w'.heap[gb309]? = some (.cells #[.int .i64 t303, .int .i64 t304, (.slice (some ad334) t305.length co56)] 24 (0, 0))) ∧ Aside0 (w'.heap[gb316]? = some (.cells #[.int .i64 t310, .int .i64 t311, (.slice Ao65 t312.length co65)] 24 (0, 0))) ∧ Aside0 (w'.heap[gb323]? = some (.cells #[.int .i64 t317, .int .i64 t318, (.slice Ao75 t319.length co75)] 33 (0, 0))) ∧ Aside0 (w'.heap[gb330]? = some (.cells #[.int .i64 t324, .int .i64 t325, (.slice Ao85 t326.length co85)] 24 (0, 0))) ∧ Aside0 (Below w.heap.size w w'))
                     case atStart => exact ⟨(255), (255), (ji148), (by first | rfl | (simp; done) | (simp [*]; done)), (by first | rfl | (simp; done) | (simp [*]; done)), (by first | rfl | (simp; done) | (simp only [← hji148] <;> (first | rfl | simp)) | (simp [*]; done)), H', ⟨Nat.le_refl _⟩, ⟨rkx HO_123⟩, ⟨rkx HO_303002⟩, ⟨rkx HO_310002⟩, ⟨rkx HO_317002⟩, ⟨rkx HO_324002⟩, ⟨rkx HO_331002⟩, ⟨bkx BK288⟩, ⟨bkx BK295⟩, ⟨bkx BK302⟩, ⟨bkx BK309⟩, ⟨bkx BK316⟩, ⟨bkx BK323⟩, ⟨bkx BK330⟩, ⟨hb7 HB GE288 GE295 GE302 GE309 GE316 GE323 GE330⟩⟩
                     case round =>
                      clear H'
                      (try clear c1); (try clear c2); (try clear p2); (try clear c3); (try clear p3); (try clear q3); (try clear hx3); (try clear c4); (try clear c5); (try clear c6); (try clear p6); (try clear c7); (try clear c7b0); (try clear c7b1); (try clear c8); (try clear c9); (try clear c10); (try clear c11); (try clear c12); (try clear c13); (try clear c14); (try clear c14b0); (try clear c14b1); (try clear c15); (try clear c15b0); (try clear c15b1); (try clear c16); (try clear c17); (try clear c21); (try clear c21b0); (try clear c21b1); (try clear c22); (try clear c22b0); (try clear c22b1); (try clear c23); (try clear c23b0); (try clear c23b1); (try clear c24); (try clear c24b0); (try clear c24b1); (try clear c25); (try clear c25b0); (try clear c25b1); (try clear c27); (try clear c29); (try clear c30); (try clear c30b0); (try clear c30b1); (try clear c30b2); (try clear p33); (try clear q33); (try clear hx33); (try clear q36); (try clear c41); (try clear c45); (try clear c46); (try clear c52); (try clear c53); (try clear c54); (try clear c60); (try clear c61); (try clear c62); (try clear c63); (try clear p64); (try clear c69); (try clear c70); (try clear c71); (try clear c72); (try clear c73); (try clear c78); (try clear c79); (try clear c80); (try clear c81); (try clear c82); (try clear c83); (try clear c94); (try clear c94b0); (try clear c95); (try clear c95b0); (try clear c96); (try clear c96b0); (try clear c97); (try clear c97b0); (try clear c97b1); (try clear c98); (try clear c98b0); (try clear c102); (try clear c102b0); (try clear c104); (try clear c105); (try clear c106); (try clear c107); (try clear c108); (try clear c109); (try clear c112); (try clear c112b0); (try clear c114); (try clear c114b0); (try clear c115); (try clear c115b0); (try clear c118); (try clear c119); (try clear c120); (try clear c121); (try clear c122); (try clear c123); (try clear c125); (try clear c126); (try clear c127); (try clear c128); (try clear c129); (try clear c131); (try clear c132); (try clear c133); (try clear c134); (try clear c135); (try clear c136); (try clear c138); (try clear c138b0); (try clear c139); (try clear c139b0); (try clear c140); (try clear c141); (try clear c142); (try clear c143); (try clear c144); (try clear c145); (try clear c147); (try clear c147b0); (try clear hcz10_0); (try clear hcz10_1); (try clear hcz10_2); (try clear hcz110_0); (try clear hcz110_1); (try clear hcz110_2); (try clear hcz124_0); (try clear hcz124_1); (try clear hcz124_2); (try clear hcz12_0); (try clear hcz12_1); (try clear hcz12_2); (try clear hcz130_0); (try clear hcz130_1); (try clear hcz130_2); (try clear hcz137_0); (try clear hcz137_1); (try clear hcz137_2); (try clear hcz146_0); (try clear hcz146_1); (try clear hcz146_2); (try clear hcz32_0); (try clear hcz32_1); (try clear hcz32_2); (try clear hcz34_0); (try clear hcz34_1); (try clear hcz34_2); (try clear hcz42_0); (try clear hcz42_1); (try clear hcz42_2); (try clear hcz47_0); (try clear hcz47_1); (try clear hcz47_2); (try clear hcz49_0); (try clear hcz49_1); (try clear hcz49_2); (try clear hcz55_0); (try clear hcz55_1); (try clear hcz55_2); (try clear hcz57_0); (try clear hcz57_1); (try clear hcz57_2); (try clear hcz64_0); (try clear hcz64_1); (try clear hcz64_2); (try clear hcz66_0); (try clear hcz66_1); (try clear hcz66_2); (try clear hcz74_0); (try clear hcz74_1); (try clear hcz74_2); (try clear hcz84_0); (try clear hcz84_1); (try clear hcz84_2); (try clear hcz86_0); (try clear hcz86_1); (try clear hcz86_2); (try clear hcz87_0); (try clear hcz87_1); (try clear hcz87_2); (try clear hcz89_0); (try clear hcz89_1); (try clear hcz89_2); (try clear hcz90_0); (try clear hcz90_1); (try clear hcz90_2); (try clear hcz92_0); (try clear hcz92_1); (try clear hcz92_2); (try clear hcz93_0); (try clear hcz93_1)
                      (try clear hcz93_2); (try clear hfz10_0); (try clear hfz10_1); (try clear hfz10_2); (try clear hfz110_0); (try clear hfz110_1); (try clear hfz110_2); (try clear hfz124_0); (try clear hfz124_1); (try clear hfz124_2); (try clear hfz12_0); (try clear hfz12_1); (try clear hfz12_2); (try clear hfz130_0); (try clear hfz130_1); (try clear hfz130_2); (try clear hfz137_0); (try clear hfz137_1); (try clear hfz137_2); (try clear hfz146_0); (try clear hfz146_1); (try clear hfz146_2); (try clear hfz32_0); (try clear hfz32_1); (try clear hfz32_2); (try clear hfz34_0); (try clear hfz34_1); (try clear hfz34_2); (try clear hfz42_0); (try clear hfz42_1); (try clear hfz42_2); (try clear hfz47_0); (try clear hfz47_1); (try clear hfz47_2); (try clear hfz49_0); (try clear hfz49_1); (try clear hfz49_2); (try clear hfz55_0); (try clear hfz55_1); (try clear hfz55_2); (try clear hfz57_0); (try clear hfz57_1); (try clear hfz57_2); (try clear hfz64_0); (try clear hfz64_1); (try clear hfz64_2); (try clear hfz66_0); (try clear hfz66_1); (try clear hfz66_2); (try clear hfz74_0); (try clear hfz74_1); (try clear hfz74_2); (try clear hfz84_0); (try clear hfz84_1); (try clear hfz84_2); (try clear hfz86_0); (try clear hfz86_1); (try clear hfz86_2); (try clear hfz87_0); (try clear hfz87_1); (try clear hfz87_2); (try clear hfz89_0); (try clear hfz89_1); (try clear hfz89_2); (try clear hfz90_0); (try clear hfz90_1); (try clear hfz90_2); (try clear hfz92_0); (try clear hfz92_1); (try clear hfz92_2); (try clear hfz93_0); (try clear hfz93_1); (try clear hfz93_2); (try clear hx334_0); (try clear hx335_0); (try clear hx336_0); (try clear p2); (try clear p3); (try clear p33); (try clear p334); (try clear p335); (try clear p336); (try clear p6); (try clear p64); (try clear q3); (try clear q33); (try clear q334); (try clear q335); (try clear q336); (try clear q36)
                      obtain ⟨x25_2, x26_2, x27_2, rfl, rfl, rfl, HA, HK2, HO_123, HO_303002, HO_310002, HO_317002, HO_324002, HO_331002, BK288, BK295, BK302, BK309, BK316, BK323, BK330, HB⟩ := hrel
                      cases gk with
                      | zero => exact absurd HA.out (by simp [barscanlaw43_PrintingMeans.l1])
                      | succ k2 =>
                       have H := HA.out
                       clear HA
                       simp only [barscanlaw43_PrintingMeans.l1] at H
                       obtain ⟨ji150, hji150⟩ : ∃ j_ : Int, (mn (wrap64 (a0_1 - 1)) (wrap64 ((wrap64 (Int.tdiv x125_1 a0_0)) + (wrap64 (Int.tmod a2 8))))) = j_ := ⟨_, rfl⟩
                       replace H : (if x27_2 ≤ (ji150) then (barscanlaw43_PrintingMeans.l2 k2 (wrap64 (Int.tmod a2 8)) (rd t305 x125_1) (Int.tmod x125_1 a0_0) (wrap64 (Int.tdiv x125_1 a0_0)) x25_2 x26_2 x27_2 (mx 0 (wrap64 ((Int.tmod x125_1 a0_0) - (wrap64 (Int.tmod a2 8))))) t305 (t305.length : Int) x125_1 a0_0 a0_1 l0_2 a0_0 a0_1 y291) else (if (rd t305 x125_1) < x25_2 then (none) else (if (rd t305 x125_1) > x26_2 then (none) else (barscanlaw43_PrintingMeans.l0 k2 (wrap64 (Int.tmod a2 8)) t305 (t305.length : Int) (wrap64 (x125_1 + 1)) a0_0 a0_1 l0_2 a0_0 a0_1 y291)))) = some r := by first | (rw [hji150] at H; exact H) | (simp only [hji150] at H ⊢; exact H)
                       have hji150_ : (if (wrap64 ((wrap64 (Int.tdiv x125_1 a0_0)) + (wrap64 (Int.tmod a2 8)))) < (wrap64 (a0_1 - 1)) then (wrap64 ((wrap64 (Int.tdiv x125_1 a0_0)) + (wrap64 (Int.tmod a2 8)))) else (wrap64 (a0_1 - 1))) = ji150 := hji150
                       by_cases c151 : x27_2 ≤ (ji150)
                       ·rw [if_pos c151] at H
                        have c151b0 : decide (x27_2 ≤ (ji150)) = true := decide_eq_true c151
                        clear c151
                        obtain ⟨ji152, hji152⟩ : ∃ j_ : Int, (mx 0 (wrap64 ((Int.tmod x125_1 a0_0) - (wrap64 (Int.tmod a2 8))))) = j_ := ⟨_, rfl⟩
                        replace H : (barscanlaw43_PrintingMeans.l2 k2 (wrap64 (Int.tmod a2 8)) (rd t305 x125_1) (Int.tmod x125_1 a0_0) (wrap64 (Int.tdiv x125_1 a0_0)) x25_2 x26_2 x27_2 ji152 t305 (t305.length : Int) x125_1 a0_0 a0_1 l0_2 a0_0 a0_1 y291) = some r := by first | (rw [hji152] at H; exact H) | (simp only [hji152] at H ⊢; exact H)
                        have hji152_ : (if 0 < (wrap64 ((Int.tmod x125_1 a0_0) - (wrap64 (Int.tmod a2 8)))) then (wrap64 ((Int.tmod x125_1 a0_0) - (wrap64 (Int.tmod a2 8)))) else 0) = ji152 := hji152
                        have H' := Aside0.mk H
                        clear H
                        have hnb153 := NB288_295.out
                        have hnc153 := NB295_288.out
                        have hnb154 := NB288_302.out
                        have hnc154 := NB302_288.out
                        have hnb155 := NB288_309.out
                        have hnc155 := NB309_288.out
                        have hnb156 := NB288_316.out
                        have hnc156 := NB316_288.out
                        have hnb157 := NB288_323.out
                        have hnc157 := NB323_288.out
                        have hnb158 := NB288_330.out
                        have hnc158 := NB330_288.out
                        have hcz159_0 : wr.cell? ⟨gb288, 0, none⟩ = some (.int .i64 a0_0) := (blk_cell BK288.out 0).trans rfl
                        have hcz159_1 : wr.cell? ⟨gb288, 1, none⟩ = some (.int .i64 a0_1) := (blk_cell BK288.out 1).trans rfl
                        have hcz159_2 : wr.cell? ⟨gb288, 2, none⟩ = some (.slice A0_2 l0_2.length c0_2) := (blk_cell BK288.out 2).trans rfl
                        have hfz159_0 := blk_frozen BK288.out 0
                        have hfz159_1 := blk_frozen BK288.out 1
                        have hfz159_2 := blk_frozen BK288.out 2
                        go_wp2
                        go_loopg [25, 26, 28] k2 (fun kq v25 v26 v28 w' => ∃ (x25_3 : Int) (x26_3 : Int) (x28_3 : Int), v25 = .int .u8 x25_3 ∧ v26 = .int .u8 x26_3 ∧ v28 = .int .i64 x28_3 ∧ Aside0 (barscanlaw43_PrintingMeans.l2 kq (wrap64 (Int.tmod a2 8)) (rd t305 x125_1) (Int.tmod x125_1 a0_0) (wrap64 (Int.tdiv x125_1 a0_0)) x25_3 x26_3 x27_2 x28_3 t305 (t305.length : Int) x125_1 a0_0 a0_1 l0_2 a0_0 a0_1 y291 = some r) ∧ Aside0 (kq ≤ k2) ∧ Aside0 (Kd.R (Kd.int .u8) 5 w' w.heap.size (fun k_ => some k_ ≠ ((.slice Ao48 t298.length co48) : Value).ownBlock ∧ some k_ ≠ ((.slice Ao65 t312.length co65) : Value).ownBlock ∧ some k_ ≠ ((.slice Ao85 t326.length co85) : Value).ownBlock) (.slice (some ad334) t305.length co56) t305) ∧ Aside0 (Kd.R (Kd.int .u8) 5 w' w.heap.size (fun k_ => some k_ ≠ ((.slice (some ad334) t305.length co56) : Value).ownBlock ∧ some k_ ≠ ((.slice (some ad334) t305.length co56) : Value).ownBlock ∧ some k_ ≠ ((.slice Ao65 t312.length co65) : Value).ownBlock ∧ some k_ ≠ ((.slice Ao85 t326.length co85) : Value).ownBlock) (.slice Ao48 t298.length co48) t298) ∧ Aside0 (Kd.R (Kd.int .u8) 5 w' w.heap.size (fun k_ => some k_ ≠ ((.slice Ao48 t298.length co48) : Value).ownBlock ∧ some k_ ≠ ((.slice Ao65 t312.length co65) : Value).ownBlock ∧ some k_ ≠ ((.slice Ao85 t326.length co85) : Value).ownBlock) (.slice (some ad334) t305.length co56) t305) ∧ Aside0 (Kd.R (Kd.int .u8) 5 w' w.heap.size (fun k_ => some k_ ≠ ((.slice (some ad334) t305.length co56) : Value).ownBlock ∧ some k_ ≠ ((.slice Ao48 t298.length co48) : Value).ownBlock ∧ some k_ ≠ ((.slice (some ad334) t305.length co56) : Value).ownBlock ∧ some k_ ≠ ((.slice Ao85 t326.length co85) : Value).ownBlock) (.slice Ao65 t312.length co65) t312) ∧ Aside0 (Kd.R Kd.bool 4 w' w.heap.size (fun _ => True) (.slice Ao75 t319.length co75) t319) ∧ Aside0 (Kd.R (Kd.int .u8) 5 w' w.heap.size (fun k_ => some k_ ≠ ((.slice (some ad334) t305.length co56) : Value).ownBlock ∧ some k_ ≠ ((.slice Ao48 t298.length co48) : Value).ownBlock ∧ some k_ ≠ ((.slice (some ad334) t305.length co56) : Value).ownBlock ∧ some k_ ≠ ((.slice Ao65 t312.length co65) : Value).ownBlock) (.slice Ao85 t326.length co85) t326) ∧ Aside0 (w'.heap[gb288]? = some (.cells #[.int .i64 a0_0, .int .i64 a0_1, (.slice A0_2 l0_2.length c0_2)] 33 (0, 0))) ∧ Aside0 (w'.heap[gb295]? = some (.cells #[.int .i64 a0_0, .int .i64 a0_1, (.slice A1 y291.length c1)] 24 (0, 0))) ∧ Aside0 (w'.heap[gb302]? = some (.cells #[.int .i64 t296, .int .i64 t297, (.slice Ao48 t298.length co48)] 24 (0, 0))) ∧ Aside0 (w'.heap[gb309]? = some (.cells #[.int .i64 t303, .int .i64 t304, (.slice (some ad334) t305.length co56)] 24 (0, 0))) ∧ Aside0 (w'.heap[gb316]? = some (.cells #[.int .i64 t310, .int .i64 t311, (.slice Ao65 t312.length co65)] 24 (0, 0))) ∧ Aside0 (w'.heap[gb323]? = some (.cells #[.int .i64 t317, .int .i64 t318, (.slice Ao75 t319.length co75)] 33 (0, 0))) ∧ Aside0 (w'.heap[gb330]? = some (.cells #[.int .i64 t324, .int .i64 t325, (.slice Ao85 t326.length co85)] 24 (0, 0))) ∧ Aside0 (Below w.heap.size w w'))
                        case atStart => exact ⟨(x25_2), (x26_2), (ji152), (by first | rfl | (simp; done) | (simp [*]; done)), (by first | rfl | (simp; done) | (simp [*]; done)), (by first | rfl | (simp; done) | (simp only [← hji152] <;> (first | rfl | simp)) | (simp [*]; done)), H', ⟨Nat.le_refl _⟩, ⟨rkx HO_123⟩, ⟨rkx HO_303002⟩, ⟨rkx HO_310002⟩, ⟨rkx HO_317002⟩, ⟨rkx HO_324002⟩, ⟨rkx HO_331002⟩, ⟨bkx BK288⟩, ⟨bkx BK295⟩, ⟨bkx BK302⟩, ⟨bkx BK309⟩, ⟨bkx BK316⟩, ⟨bkx BK323⟩, ⟨bkx BK330⟩, ⟨hb7 HB GE288 GE295 GE302 GE309 GE316 GE323 GE330⟩⟩
                        case round =>
                         clear H'
                         (try clear c1); (try clear c2); (try clear p2); (try clear c3); (try clear p3); (try clear q3); (try clear hx3); (try clear c4); (try clear c5); (try clear c6); (try clear p6); (try clear c7); (try clear c7b0); (try clear c7b1); (try clear c8); (try clear c9); (try clear c10); (try clear c11); (try clear c12); (try clear c13); (try clear c14); (try clear c14b0); (try clear c14b1); (try clear c15); (try clear c15b0); (try clear c15b1); (try clear c16); (try clear c17); (try clear c21); (try clear c21b0); (try clear c21b1); (try clear c22); (try clear c22b0); (try clear c22b1); (try clear c23); (try clear c23b0); (try clear c23b1); (try clear c24); (try clear c24b0); (try clear c24b1); (try clear c25); (try clear c25b0); (try clear c25b1); (try clear c27); (try clear c29); (try clear c30); (try clear c30b0); (try clear c30b1); (try clear c30b2); (try clear p33); (try clear q33); (try clear hx33); (try clear q36); (try clear c41); (try clear c45); (try clear c46); (try clear c52); (try clear c53); (try clear c54); (try clear c60); (try clear c61); (try clear c62); (try clear c63); (try clear p64); (try clear c69); (try clear c70); (try clear c71); (try clear c72); (try clear c73); (try clear c78); (try clear c79); (try clear c80); (try clear c81); (try clear c82); (try clear c83); (try clear c94); (try clear c94b0); (try clear c95); (try clear c95b0); (try clear c96); (try clear c96b0); (try clear c97); (try clear c97b0); (try clear c97b1); (try clear c98); (try clear c98b0); (try clear c102); (try clear c102b0); (try clear c104); (try clear c105); (try clear c106); (try clear c107); (try clear c108); (try clear c109); (try clear c112); (try clear c112b0); (try clear c114); (try clear c114b0); (try clear c115); (try clear c115b0); (try clear c118); (try clear c119); (try clear c120); (try clear c121); (try clear c122); (try clear c123); (try clear c125); (try clear c126); (try clear c127); (try clear c128); (try clear c129); (try clear c131); (try clear c132); (try clear c133); (try clear c134); (try clear c135); (try clear c136); (try clear c138); (try clear c138b0); (try clear c139); (try clear c139b0); (try clear c140); (try clear c141); (try clear c142); (try clear c143); (try clear c144); (try clear c145); (try clear c147); (try clear c147b0); (try clear c151); (try clear c151b0); (try clear c153); (try clear c154); (try clear c155); (try clear c156); (try clear c157); (try clear c158); (try clear hcz10_0); (try clear hcz10_1); (try clear hcz10_2); (try clear hcz110_0); (try clear hcz110_1); (try clear hcz110_2); (try clear hcz124_0); (try clear hcz124_1); (try clear hcz124_2); (try clear hcz12_0); (try clear hcz12_1); (try clear hcz12_2); (try clear hcz130_0); (try clear hcz130_1); (try clear hcz130_2); (try clear hcz137_0); (try clear hcz137_1); (try clear hcz137_2); (try clear hcz146_0); (try clear hcz146_1); (try clear hcz146_2); (try clear hcz159_0); (try clear hcz159_1); (try clear hcz159_2); (try clear hcz32_0); (try clear hcz32_1); (try clear hcz32_2); (try clear hcz34_0); (try clear hcz34_1); (try clear hcz34_2); (try clear hcz42_0); (try clear hcz42_1); (try clear hcz42_2); (try clear hcz47_0); (try clear hcz47_1); (try clear hcz47_2); (try clear hcz49_0); (try clear hcz49_1); (try clear hcz49_2); (try clear hcz55_0); (try clear hcz55_1); (try clear hcz55_2); (try clear hcz57_0); (try clear hcz57_1); (try clear hcz57_2); (try clear hcz64_0); (try clear hcz64_1); (try clear hcz64_2); (try clear hcz66_0); (try clear hcz66_1); (try clear hcz66_2); (try clear hcz74_0); (try clear hcz74_1); (try clear hcz74_2); (try clear hcz84_0); (try clear hcz84_1); (try clear hcz84_2); (try clear hcz86_0); (try clear hcz86_1); (try clear hcz86_2); (try clear hcz87_0); (try clear hcz87_1); (try clear hcz87_2)
                         (try clear hcz89_0); (try clear hcz89_1); (try clear hcz89_2); (try clear hcz90_0); (try clear hcz90_1); (try clear hcz90_2); (try clear hcz92_0); (try clear hcz92_1); (try clear hcz92_2); (try clear hcz93_0); (try clear hcz93_1); (try clear hcz93_2); (try clear hfz10_0); (try clear hfz10_1); (try clear hfz10_2); (try clear hfz110_0); (try clear hfz110_1); (try clear hfz110_2); (try clear hfz124_0); (try clear hfz124_1); (try clear hfz124_2); (try clear hfz12_0); (try clear hfz12_1); (try clear hfz12_2); (try clear hfz130_0); (try clear hfz130_1); (try clear hfz130_2); (try clear hfz137_0); (try clear hfz137_1); (try clear hfz137_2); (try clear hfz146_0); (try clear hfz146_1); (try clear hfz146_2); (try clear hfz159_0); (try clear hfz159_1); (try clear hfz159_2); (try clear hfz32_0); (try clear hfz32_1); (try clear hfz32_2); (try clear hfz34_0); (try clear hfz34_1); (try clear hfz34_2); (try clear hfz42_0); (try clear hfz42_1); (try clear hfz42_2); (try clear hfz47_0); (try clear hfz47_1); (try clear hfz47_2); (try clear hfz49_0); (try clear hfz49_1); (try clear hfz49_2); (try clear hfz55_0); (try clear hfz55_1); (try clear hfz55_2); (try clear hfz57_0); (try clear hfz57_1); (try clear hfz57_2); (try clear hfz64_0); (try clear hfz64_1); (try clear hfz64_2); (try clear hfz66_0); (try clear hfz66_1); (try clear hfz66_2); (try clear hfz74_0); (try clear hfz74_1); (try clear hfz74_2); (try clear hfz84_0); (try clear hfz84_1); (try clear hfz84_2); (try clear hfz86_0); (try clear hfz86_1); (try clear hfz86_2); (try clear hfz87_0); (try clear hfz87_1); (try clear hfz87_2); (try clear hfz89_0); (try clear hfz89_1); (try clear hfz89_2); (try clear hfz90_0); (try clear hfz90_1); (try clear hfz90_2); (try clear hfz92_0); (try clear hfz92_1); (try clear hfz92_2); (try clear hfz93_0); (try clear hfz93_1); (try clear hfz93_2); (try clear hx334_0); (try clear hx335_0); (try clear hx336_0); (try clear p2); (try clear p3); (try clear p33); (try clear p334); (try clear p335); (try clear p336); (try clear p6); (try clear p64); (try clear q3); (try clear q33); (try clear q334); (try clear q335); (try clear q336); (try clear q36)
                         obtain ⟨x25_3, x26_3, x28_3, rfl, rfl, rfl, HA, HK3, HO_123, HO_303002, HO_310002, HO_317002, HO_324002, HO_331002, BK288, BK295, BK302, BK309, BK316, BK323, BK330, HB⟩ := hrel
                         cases gk with
                         | zero => exact absurd HA.out (by simp [barscanlaw43_PrintingMeans.l2])
                         | succ k3 =>
                          have H := HA.out
                          clear HA
                          simp only [barscanlaw43_PrintingMeans.l2] at H
                          obtain ⟨ji160, hji160⟩ : ∃ j_ : Int, (mn (wrap64 (a0_0 - 1)) (wrap64 ((Int.tmod x125_1 a0_0) + (wrap64 (Int.tmod a2 8))))) = j_ := ⟨_, rfl⟩
                          replace H : (if x28_3 ≤ (ji160) then (if 0 ≤ (wrap64 ((wrap64 (x27_2 * a0_0)) + x28_3)) then (if (wrap64 ((wrap64 (x27_2 * a0_0)) + x28_3)) < (y291.length : Int) then (barscanlaw43_PrintingMeans.l2 k3 (wrap64 (Int.tmod a2 8)) (rd t305 x125_1) (Int.tmod x125_1 a0_0) (wrap64 (Int.tdiv x125_1 a0_0)) (mn x25_3 (rd y291 (wrap64 ((wrap64 (x27_2 * a0_0)) + x28_3)))) (mx x26_3 (rd y291 (wrap64 ((wrap64 (x27_2 * a0_0)) + x28_3)))) x27_2 (wrap64 (x28_3 + 1)) t305 (t305.length : Int) x125_1 a0_0 a0_1 l0_2 a0_0 a0_1 y291) else (none)) else (none)) else (barscanlaw43_PrintingMeans.l1 k3 (wrap64 (Int.tmod a2 8)) (rd t305 x125_1) (Int.tmod x125_1 a0_0) (wrap64 (Int.tdiv x125_1 a0_0)) x25_3 x26_3 (wrap64 (x27_2 + 1)) t305 (t305.length : Int) x125_1 a0_0 a0_1 l0_2 a0_0 a0_1 y291)) = some r := by first | (rw [hji160] at H; exact H) | (simp only [hji160] at H ⊢; exact H)
                          have hji160_ : (if (wrap64 ((Int.tmod x125_1 a0_0) + (wrap64 (Int.tmod a2 8)))) < (wrap64 (a0_0 - 1)) then (wrap64 ((Int.tmod x125_1 a0_0) + (wrap64 (Int.tmod a2 8)))) else (wrap64 (a0_0 - 1))) = ji160 := hji160
                          by_cases c161 : x28_3 ≤ (ji160)
                          ·rw [if_pos c161] at H
                           have c161b0 : decide (x28_3 ≤ (ji160)) = true := decide_eq_true c161
                           clear c161
                           obtain ⟨ji162, hji162⟩ : ∃ j_ : Int, (wrap64 ((wrap64 (x27_2 * a0_0)) + x28_3)) = j_ := ⟨_, rfl⟩
                           replace H : (if 0 ≤ (ji162) then (if (ji162) < (y291.length : Int) then (barscanlaw43_PrintingMeans.l2 k3 (wrap64 (Int.tmod a2 8)) (rd t305 x125_1) (Int.tmod x125_1 a0_0) (wrap64 (Int.tdiv x125_1 a0_0)) (mn x25_3 (rd y291 (ji162))) (mx x26_3 (rd y291 (ji162))) x27_2 (wrap64 (x28_3 + 1)) t305 (t305.length : Int) x125_1 a0_0 a0_1 l0_2 a0_0 a0_1 y291) else (none)) else (none)) = some r := by first | (rw [hji162] at H; exact H) | (simp only [hji162] at H ⊢; exact H)
                           have hji162w : (IntKind.i64.wrap ((wrap64 (x27_2 * a0_0)) + x28_3)) = ji162 := (i64_w _).trans hji162
                           by_cases c163 : 0 ≤ (ji162)
                           ·rw [if_pos c163] at H
                            have c163b0 : decide (0 ≤ (ji162)) = true := decide_eq_true c163
                            clear c163
                            by_cases c164 : (ji162) < (y291.length : Int)
                            ·rw [if_pos c164] at H
                             have c164b0 : decide ((ji162) < (y291.length : Int)) = true := decide_eq_true c164
                             clear c164
                             obtain ⟨ji165, hji165⟩ : ∃ j_ : Int, (mn x25_3 (rd y291 (ji162))) = j_ := ⟨_, rfl⟩
                             replace H : (barscanlaw43_PrintingMeans.l2 k3 (wrap64 (Int.tmod a2 8)) (rd t305 x125_1) (Int.tmod x125_1 a0_0) (wrap64 (Int.tdiv x125_1 a0_0)) ji165 (mx x26_3 (rd y291 (ji162))) x27_2 (wrap64 (x28_3 + 1)) t305 (t305.length : Int) x125_1 a0_0 a0_1 l0_2 a0_0 a0_1 y291) = some r := by first | (rw [hji165] at H; exact H) | (simp only [hji165] at H ⊢; exact H)
                             have hji165_ : (if (rd y291 (ji162)) < x25_3 then (rd y291 (ji162)) else x25_3) = ji165 := hji165
                             obtain ⟨ji166, hji166⟩ : ∃ j_ : Int, (mx x26_3 (rd y291 (ji162))) = j_ := ⟨_, rfl⟩
                             replace H : (barscanlaw43_PrintingMeans.l2 k3 (wrap64 (Int.tmod a2 8)) (rd t305 x125_1) (Int.tmod x125_1 a0_0) (wrap64 (Int.tdiv x125_1 a0_0)) ji165 ji166 x27_2 (wrap64 (x28_3 + 1)) t305 (t305.length : Int) x125_1 a0_0 a0_1 l0_2 a0_0 a0_1 y291) = some r := by first | (rw [hji166] at H; exact H) | (simp only [hji166] at H ⊢; exact H)
                             have hji166_ : (if x26_3 < (rd y291 (ji162)) then (rd y291 (ji162)) else x26_3) = ji166 := hji166
                             have H' := Aside0.mk H
                             clear H
                             have hnb167 := NB288_295.out
                             have hnc167 := NB295_288.out
                             have hnb168 := NB288_302.out
                             have hnc168 := NB302_288.out
                             have hnb169 := NB288_309.out
                             have hnc169 := NB309_288.out
                             have hnb170 := NB288_316.out
                             have hnc170 := NB316_288.out
                             have hnb171 := NB288_323.out
                             have hnc171 := NB323_288.out
                             have hnb172 := NB288_330.out
                             have hnc172 := NB330_288.out
                             have hcz173_0 : wr.cell? ⟨gb288, 0, none⟩ = some (.int .i64 a0_0) := (blk_cell BK288.out 0).trans rfl
                             have hcz173_1 : wr.cell? ⟨gb288, 1, none⟩ = some (.int .i64 a0_1) := (blk_cell BK288.out 1).trans rfl
                             have hcz173_2 : wr.cell? ⟨gb288, 2, none⟩ = some (.slice A0_2 l0_2.length c0_2) := (blk_cell BK288.out 2).trans rfl
                             have hfz173_0 := blk_frozen BK288.out 0
                             have hfz173_1 := blk_frozen BK288.out 1
                             have hfz173_2 := blk_frozen BK288.out 2
                             have hnb174 := NB295_302.out
                             have hnc174 := NB302_295.out
                             have hnb175 := NB295_309.out
                             have hnc175 := NB309_295.out
                             have hnb176 := NB295_316.out
                             have hnc176 := NB316_295.out
                             have hnb177 := NB295_323.out
                             have hnc177 := NB323_295.out
                             have hnb178 := NB295_330.out
                             have hnc178 := NB330_295.out
                             have hcz179_0 : wr.cell? ⟨gb295, 0, none⟩ = some (.int .i64 a0_0) := (blk_cell BK295.out 0).trans rfl
                             have hcz179_1 : wr.cell? ⟨gb295, 1, none⟩ = some (.int .i64 a0_1) := (blk_cell BK295.out 1).trans rfl
                             have hcz179_2 : wr.cell? ⟨gb295, 2, none⟩ = some (.slice A1 y291.length c1) := (blk_cell BK295.out 2).trans rfl
                             have hfz179_0 := blk_frozen BK295.out 0
                             have hfz179_1 := blk_frozen BK295.out 1
                             have hfz179_2 := blk_frozen BK295.out 2
                             have p335 : 0 ≤ ((ji162) : Int) := of_decide_eq_true (by first | (with_reducible assumption) | assumption)
                             have q335 : (ji162) < (y291.length : Int) := of_decide_eq_true (by first | (with_reducible assumption) | assumption)
                             obtain ⟨ad335, e335, hx335_0⟩ := Kd.at_int HR294.out (ji162) p335 q335
                             cases e335
                             replace hx335_0 := (HB.out.cell (World.block_lt_of_cell? w _ hx335_0)).trans hx335_0
                             replace p335 := eq_true p335
                             replace q335 := eq_true q335
                             have p336 : 0 ≤ ((ji162) : Int) := of_decide_eq_true (by first | (with_reducible assumption) | assumption)
                             have q336 : (ji162) < (y291.length : Int) := of_decide_eq_true (by first | (with_reducible assumption) | assumption)
                             obtain ⟨ad336, e336, hx336_0⟩ := Kd.at_int HR294.out (ji162) p336 q336
                             obtain rfl : ad335 = ad336 := (by injection e336)
                             replace hx336_0 := (HB.out.cell (World.block_lt_of_cell? w _ hx336_0)).trans hx336_0
                             replace p336 := eq_true p336
                             replace q336 := eq_true q336
                             go_wp2
                             go_roundg k3
                             case measure => have := HK1.out; have := HK2.out; have := HK3.out; omega
                             case rel => exact ⟨(ji165), (ji166), (wrap64 (x28_3 + 1)), (by first | rfl | (simp; done) | (simp only [← hji165] <;> (first | rfl | simp)) | (simp [*]; done)), (by first | rfl | (simp; done) | (simp only [← hji166] <;> (first | rfl | simp)) | (simp [*]; done)), (by first | rfl | (simp; done) | (simp [*]; done)), H', ⟨by have := HK1.out; have := HK2.out; have := HK3.out; omega⟩, ⟨rkx HO_123⟩, ⟨rkx HO_303002⟩, ⟨rkx HO_310002⟩, ⟨rkx HO_317002⟩, ⟨rkx HO_324002⟩, ⟨rkx HO_331002⟩, ⟨bkx BK288⟩, ⟨bkx BK295⟩, ⟨bkx BK302⟩, ⟨bkx BK309⟩, ⟨bkx BK316⟩, ⟨bkx BK323⟩, ⟨bkx BK330⟩, ⟨hb7 HB GE288 GE295 GE302 GE309 GE316 GE323 GE330⟩⟩
                            ·rw [if_neg c164] at H
                             exact absurd H (by simp)
                           ·rw [if_neg c163] at H
                            exact absurd H (by simp)
                          ·rw [if_neg c161] at H
                           have c161b0 : decide (x28_3 ≤ (ji160)) = false := decide_eq_false c161
                           clear c161
                           have H' := Aside0.mk H
                           clear H
                           have hnb180 := NB288_295.out
                           have hnc180 := NB295_288.out
                           have hnb181 := NB288_302.out
                           have hnc181 := NB302_288.out
                           have hnb182 := NB288_309.out
                           have hnc182 := NB309_288.out
                           have hnb183 := NB288_316.out
                           have hnc183 := NB316_288.out
                           have hnb184 := NB288_323.out
                           have hnc184 := NB323_288.out
                           have hnb185 := NB288_330.out
                           have hnc185 := NB330_288.out
                           have hcz186_0 : wr.cell? ⟨gb288, 0, none⟩ = some (.int .i64 a0_0) := (blk_cell BK288.out 0).trans rfl
                           have hcz186_1 : wr.cell? ⟨gb288, 1, none⟩ = some (.int .i64 a0_1) := (blk_cell BK288.out 1).trans rfl
                           have hcz186_2 : wr.cell? ⟨gb288, 2, none⟩ = some (.slice A0_2 l0_2.length c0_2) := (blk_cell BK288.out 2).trans rfl
                           have hfz186_0 := blk_frozen BK288.out 0
                           have hfz186_1 := blk_frozen BK288.out 1
                           have hfz186_2 := blk_frozen BK288.out 2
                           go_wp2
                           go_roundg k3
                           case measure => have := HK1.out; have := HK2.out; have := HK3.out; omega
                           case rel => exact ⟨(x25_3), (x26_3), (wrap64 (x27_2 + 1)), (by first | rfl | (simp; done) | (simp [*]; done)), (by first | rfl | (simp; done) | (simp [*]; done)), (by first | rfl | (simp; done) | (simp [*]; done)), H', ⟨by have := HK1.out; have := HK2.out; have := HK3.out; omega⟩, ⟨rkx HO_123⟩, ⟨rkx HO_303002⟩, ⟨rkx HO_310002⟩, ⟨rkx HO_317002⟩, ⟨rkx HO_324002⟩, ⟨rkx HO_331002⟩, ⟨bkx BK288⟩, ⟨bkx BK295⟩, ⟨bkx BK302⟩, ⟨bkx BK309⟩, ⟨bkx BK316⟩, ⟨bkx BK323⟩, ⟨bkx BK330⟩, ⟨hb7 HB GE288 GE295 GE302 GE309 GE316 GE323 GE330⟩⟩
                       ·rw [if_neg c151] at H
                        have c151b0 : decide (x27_2 ≤ (ji150)) = false := decide_eq_false c151
                        clear c151
                        by_cases c187 : (rd t305 x125_1) < x25_2
                        ·rw [if_pos c187] at H
                         exact absurd H (by simp)
                        ·rw [if_neg c187] at H
                         have c187b0 : decide ((rd t305 x125_1) < x25_2) = false := decide_eq_false c187
                         clear c187
                         by_cases c188 : (rd t305 x125_1) > x26_2
                         ·rw [if_pos c188] at H
                          exact absurd H (by simp)
                         ·rw [if_neg c188] at H
                          have c188b0 : decide (x26_2 < (rd t305 x125_1)) = false := decide_eq_false c188
                          clear c188
                          have H' := Aside0.mk H
                          clear H
                          have hnb189 := NB288_295.out
                          have hnc189 := NB295_288.out
                          have hnb190 := NB288_302.out
                          have hnc190 := NB302_288.out
                          have hnb191 := NB288_309.out
                          have hnc191 := NB309_288.out
                          have hnb192 := NB288_316.out
                          have hnc192 := NB316_288.out
                          have hnb193 := NB288_323.out
                          have hnc193 := NB323_288.out
                          have hnb194 := NB288_330.out
                          have hnc194 := NB330_288.out
                          have hcz195_0 : wr.cell? ⟨gb288, 0, none⟩ = some (.int .i64 a0_0) := (blk_cell BK288.out 0).trans rfl
                          have hcz195_1 : wr.cell? ⟨gb288, 1, none⟩ = some (.int .i64 a0_1) := (blk_cell BK288.out 1).trans rfl
                          have hcz195_2 : wr.cell? ⟨gb288, 2, none⟩ = some (.slice A0_2 l0_2.length c0_2) := (blk_cell BK288.out 2).trans rfl
                          have hfz195_0 := blk_frozen BK288.out 0
                          have hfz195_1 := blk_frozen BK288.out 1
                          have hfz195_2 := blk_frozen BK288.out 2
                          go_wp2
                          go_roundg k2
                          case measure => have := HK1.out; have := HK2.out; omega
                          case rel => exact ⟨(wrap64 (x125_1 + 1)), (by first | rfl | (simp; done) | (simp [*]; done)), H', ⟨by have := HK1.out; have := HK2.out; omega⟩, ⟨rkx HO_123⟩, ⟨rkx HO_303002⟩, ⟨rkx HO_310002⟩, ⟨rkx HO_317002⟩, ⟨rkx HO_324002⟩, ⟨rkx HO_331002⟩, ⟨bkx BK288⟩, ⟨bkx BK295⟩, ⟨bkx BK302⟩, ⟨bkx BK309⟩, ⟨bkx BK316⟩, ⟨bkx BK323⟩, ⟨bkx BK330⟩, ⟨hb7 HB GE288 GE295 GE302 GE309 GE316 GE323 GE330⟩⟩
                    ·rw [if_neg c147] at H
                     have c147b0 : decide ((wrap64 (Int.tdiv x125_1 a0_0)) < (wrap64 (Int.tmod a2 8))) = false := decide_eq_false c147
                     clear c147
                     by_cases c196 : (wrap64 ((Int.tmod x125_1 a0_0) + (wrap64 (Int.tmod a2 8)))) ≥ a0_0
                     ·rw [if_pos c196] at H
                      have c196b0 : decide (a0_0 ≤ (wrap64 ((Int.tmod x125_1 a0_0) + (wrap64 (Int.tmod a2 8))))) = true := decide_eq_true c196
                      clear c196
                      obtain ⟨ji197, hji197⟩ : ∃ j_ : Int, (mx 0 (wrap64 ((wrap64 (Int.tdiv x125_1 a0_0)) - (wrap64 (Int.tmod a2 8))))) = j_ := ⟨_, rfl⟩
                      replace H : (barscanlaw43_PrintingMeans.l1 k1 (wrap64 (Int.tmod a2 8)) (rd t305 x125_1) (Int.tmod x125_1 a0_0) (wrap64 (Int.tdiv x125_1 a0_0)) 255 255 ji197 t305 (t305.length : Int) x125_1 a0_0 a0_1 l0_2 a0_0 a0_1 y291) = some r := by first | (rw [hji197] at H; exact H) | (simp only [hji197] at H ⊢; exact H)
                      have hji197_ : (if 0 < (wrap64 ((wrap64 (Int.tdiv x125_1 a0_0)) - (wrap64 (Int.tmod a2 8)))) then (wrap64 ((wrap64 (Int.tdiv x125_1 a0_0)) - (wrap64 (Int.tmod a2 8)))) else 0) = ji197 := hji197
                      have H' := Aside0.mk H
                      clear H
                      have p334 : 0 ≤ (x125_1 : Int) := of_decide_eq_true (by first | (with_reducible assumption) | assumption)
                      have q334 : x125_1 < (t305.length : Int) := of_decide_eq_true (by first | (with_reducible assumption) | assumption)
                      obtain ⟨ad334, e334, hx334_0⟩ := Kd.at_int (Kd.R_reads' HO_123.out).2.2 x125_1 p334 q334
                      cases e334
                      replace p334 := eq_true p334
                      replace q334 := eq_true q334
                      try go_wp2
                      have n0_ := Aside0.mk (Kd.R_drew HO_123.out)
                      have n1_ := Aside0.mk (Kd.R_drew HO_303002.out)
                      have n2_ := Aside0.mk (Kd.R_drew HO_310002.out)
                      have n3_ := Aside0.mk (Kd.R_drew HO_317002.out)
                      have n4_ := Aside0.mk (Kd.R_drew HO_324002.out)
                      have n5_ := Aside0.mk (Kd.R_drew HO_331002.out)
                      have n6_ := Aside0.mk (blk_drew BK288.out)
                      have n7_ := Aside0.mk (blk_drew BK295.out)
                      have n8_ := Aside0.mk (blk_drew BK302.out)
                      have n9_ := Aside0.mk (blk_drew BK309.out)
                      have n10_ := Aside0.mk (blk_drew BK316.out)
                      have n11_ := Aside0.mk (blk_drew BK323.out)
                      have n12_ := Aside0.mk (blk_drew BK330.out)
                      have n13_ := Aside0.mk (below_drew1 HB.out)
                      clear HO_123
                      clear HO_303002
                      clear HO_310002
                      clear HO_317002
                      clear HO_324002
                      clear HO_331002
                      clear BK288
                      clear BK295
                      clear BK302
                      clear BK309
                      clear BK316
                      clear BK323
                      clear BK330
                      clear HB
                      have HO_123 := n0_
                      have HO_303002 := n1_
                      have HO_310002 := n2_
                      have HO_317002 := n3_
                      have HO_324002 := n4_
                      have HO_331002 := n5_
                      have BK288 := n6_
                      have BK295 := n7_
                      have BK302 := n8_
                      have BK309 := n9_
                      have BK316 := n10_
                      have BK323 := n11_
                      have BK330 := n12_
                      have HB := n13_
                      clear n0_ n1_ n2_ n3_ n4_ n5_ n6_ n7_ n8_ n9_ n10_ n11_ n12_ n13_
                      refine start_ (n := 10) (S := fun w' => w'.cell? ⟨gb288, 0, none⟩ = some (.int .i64 a0_0) ∧ w'.cell? ⟨gb288, 1, none⟩ = some (.int .i64 a0_1) ∧ w'.cell? ⟨gb288, 2, none⟩ = some (.slice A0_2 l0_2.length c0_2)) (ds := []) (bA 10 0) (by kernel_rfl) rfl rfl ⟨(blk_cell BK288.out 0).trans rfl, (blk_cell BK288.out 1).trans rfl, (blk_cell BK288.out 2).trans rfl⟩ (fun hHeld => ?_); refine with_tabW barscanlaw43_PrintingMeans.tab15 barscanlaw43_PrintingMeans.bits15 (fun HT_ HW_ => ?_)
                      generalize wr.drew = w198 at HO_123 HO_303002 HO_310002 HO_317002 HO_324002 HO_331002 BK288 BK295 BK302 BK309 BK316 BK323 BK330 HB hHeld ⊢
                      refine pt HT_ 0 130 ?_
                      refine pt HT_ 1 131 ?_
                      refine pt HT_ 4 134 ?_
                      refine pt HT_ 5 135 ?_
                      refine tk HT_ HW_ hHeld 2 132 ?_
                      refine pt HT_ 3 133 ?_
                      refine pt HT_ 8 23 ?_
                      refine tk HT_ HW_ hHeld 6 136 ?_
                      refine pt HT_ 7 137 ?_
                      refine pt HT_ 9 24 ?_
                      refine done_ (done_of HT_.out (by kernel_rfl)) ?_
                      have hnb199 := NB288_295.out
                      have hnc199 := NB295_288.out
                      have hnb200 := NB288_302.out
                      have hnc200 := NB302_288.out
                      have hnb201 := NB288_309.out
                      have hnc201 := NB309_288.out
                      have hnb202 := NB288_316.out
                      have hnc202 := NB316_288.out
                      have hnb203 := NB288_323.out
                      have hnc203 := NB323_288.out
                      have hnb204 := NB288_330.out
                      have hnc204 := NB330_288.out
                      have hcz205_0 : w198.cell? ⟨gb288, 0, none⟩ = some (.int .i64 a0_0) := (blk_cell BK288.out 0).trans rfl
                      have hcz205_1 : w198.cell? ⟨gb288, 1, none⟩ = some (.int .i64 a0_1) := (blk_cell BK288.out 1).trans rfl
                      have hcz205_2 : w198.cell? ⟨gb288, 2, none⟩ = some (.slice A0_2 l0_2.length c0_2) := (blk_cell BK288.out 2).trans rfl
                      have hfz205_0 := blk_frozen BK288.out 0
                      have hfz205_1 := blk_frozen BK288.out 1
                      have hfz205_2 := blk_frozen BK288.out 2
                      try go_wp2
                      go_loopg [25, 26, 27] k1 (fun kq v25 v26 v27 w' => ∃ (x25_2 : Int) (x26_2 : Int) (x27_2 : Int), v25 = .int .u8 x25_2 ∧ v26 = .int .u8 x26_2 ∧ v27 = .int .i64 x27_2 ∧ Aside0 (barscanlaw43_PrintingMeans.l1 kq (wrap64 (Int.tmod a2 8)) (rd t305 x125_1) (Int.tmod x125_1 a0_0) (wrap64 (Int.tdiv x125_1 a0_0)) x25_2 x26_2 x27_2 t305 (t305.length : Int) x125_1 a0_0 a0_1 l0_2 a0_0 a0_1 y291 = some r) ∧ Aside0 (kq ≤ k1) ∧ Aside0 (Kd.R (Kd.int .u8) 5 w' w.heap.size (fun k_ => some k_ ≠ ((.slice Ao48 t298.length co48) : Value).ownBlock ∧ some k_ ≠ ((.slice Ao65 t312.length co65) : Value).ownBlock ∧ some k_ ≠ ((.slice Ao85 t326.length co85) : Value).ownBlock) (.slice (some ad334) t305.length co56) t305) ∧ Aside0 (Kd.R (Kd.int .u8) 5 w' w.heap.size (fun k_ => some k_ ≠ ((.slice (some ad334) t305.length co56) : Value).ownBlock ∧ some k_ ≠ ((.slice (some ad334) t305.length co56) : Value).ownBlock ∧ some k_ ≠ ((.slice Ao65 t312.length co65) : Value).ownBlock ∧ some k_ ≠ ((.slice Ao85 t326.length co85) : Value).ownBlock) (.slice Ao48 t298.length co48) t298) ∧ Aside0 (Kd.R (Kd.int .u8) 5 w' w.heap.size (fun k_ => some k_ ≠ ((.slice Ao48 t298.length co48) : Value).ownBlock ∧ some k_ ≠ ((.slice Ao65 t312.length co65) : Value).ownBlock ∧ some k_ ≠ ((.slice Ao85 t326.length co85) : Value).ownBlock) (.slice (some ad334) t305.length co56) t305) ∧ Aside0 (Kd.R (Kd.int .u8) 5 w' w.heap.size (fun k_ => some k_ ≠ ((.slice (some ad334) t305.length co56) : Value).ownBlock ∧ some k_ ≠ ((.slice Ao48 t298.length co48) : Value).ownBlock ∧ some k_ ≠ ((.slice (some ad334) t305.length co56) : Value).ownBlock ∧ some k_ ≠ ((.slice Ao85 t326.length co85) : Value).ownBlock) (.slice Ao65 t312.length co65) t312) ∧ Aside0 (Kd.R Kd.bool 4 w' w.heap.size (fun _ => True) (.slice Ao75 t319.length co75) t319) ∧ Aside0 (Kd.R (Kd.int .u8) 5 w' w.heap.size (fun k_ => some k_ ≠ ((.slice (some ad334) t305.length co56) : Value).ownBlock ∧ some k_ ≠ ((.slice Ao48 t298.length co48) : Value).ownBlock ∧ some k_ ≠ ((.slice (some ad334) t305.length co56) : Value).ownBlock ∧ some k_ ≠ ((.slice Ao65 t312.length co65) : Value).ownBlock) (.slice Ao85 t326.length co85) t326) ∧ Aside0 (w'.heap[gb288]? = some (.cells #[.int .i64 a0_0, .int .i64 a0_1, (.slice A0_2 l0_2.length c0_2)] 33 (0, 0))) ∧ Aside0 (w'.heap[gb295]? = some (.cells #[.int .i64 a0_0, .int .i64 a0_1, (.slice A1 y291.length c1)] 24 (0, 0))) ∧ Aside0 (w'.heap[gb302]? = some (.cells #[.int .i64 t296, .int .i64 t297, (.slice Ao48 t298.length co48)] 24 (0, 0))) ∧ Aside0 (w'.heap[gb309]? = some (.cells #[.int .i64 t303, .int .i64 t304, (.slice (some ad334) t305.length co56)] 24 (0, 0))) ∧ Aside0 (w'.heap[gb316]? = some (.cells #[.int .i64 t310, .int .i64 t311, (.slice Ao65 t312.length co65)] 24 (0, 0))) ∧ Aside0 (w'.heap[gb323]? = some (.cells #[.int .i64 t317, .int .i64 t318, (.slice Ao75 t319.length co75)] 33 (0, 0))) ∧ Aside0 (w'.heap[gb330]? = some (.cells #[.int .i64 t324, .int .i64 t325, (.slice Ao85 t326.length co85)] 24 (0, 0))) ∧ Aside0 (Below w.heap.size w w'))
                      case atStart => exact ⟨(255), (255), (ji197), (by first | rfl | (simp; done) | (simp [*]; done)), (by first | rfl | (simp; done) | (simp [*]; done)), (by first | rfl | (simp; done) | (simp only [← hji197] <;> (first | rfl | simp)) | (simp [*]; done)), H', ⟨Nat.le_refl _⟩, ⟨rkx HO_123⟩, ⟨rkx HO_303002⟩, ⟨rkx HO_310002⟩, ⟨rkx HO_317002⟩, ⟨rkx HO_324002⟩, ⟨rkx HO_331002⟩, ⟨bkx BK288⟩, ⟨bkx BK295⟩, ⟨bkx BK302⟩, ⟨bkx BK309⟩, ⟨bkx BK316⟩, ⟨bkx BK323⟩, ⟨bkx BK330⟩, ⟨hb7 HB GE288 GE295 GE302 GE309 GE316 GE323 GE330⟩⟩
                      case round =>
                       clear H'
                       (try clear c1); (try clear c2); (try clear p2); (try clear c3); (try clear p3); (try clear q3); (try clear hx3); (try clear c4); (try clear c5); (try clear c6); (try clear p6); (try clear c7); (try clear c8); (try clear c9); (try clear c10); (try clear c11); (try clear c12); (try clear c13); (try clear c14); (try clear c15); (try clear c16); (try clear c17); (try clear c18); (try clear c19); (try clear c20); (try clear c21); (try clear c21b0); (try clear c21b1); (try clear c22); (try clear c22b0); (try clear c22b1); (try clear c23); (try clear c23b0); (try clear c23b1); (try clear c24); (try clear c24b0); (try clear c24b1); (try clear c25); (try clear c25b0); (try clear c25b1); (try clear c27); (try clear c29); (try clear c30); (try clear c30b0); (try clear c30b1); (try clear c30b2); (try clear p33); (try clear q33); (try clear hx33); (try clear q36); (try clear c41); (try clear c45); (try clear c46); (try clear c52); (try clear c53); (try clear c54); (try clear c60); (try clear c61); (try clear c62); (try clear c63); (try clear p64); (try clear c69); (try clear c70); (try clear c71); (try clear c72); (try clear c73); (try clear c78); (try clear c79); (try clear c80); (try clear c81); (try clear c82); (try clear c83); (try clear c94); (try clear c94b0); (try clear c95); (try clear c95b0); (try clear c96); (try clear c96b0); (try clear c97); (try clear c97b0); (try clear c97b1); (try clear c98); (try clear c98b0); (try clear c102); (try clear c102b0); (try clear c104); (try clear c105); (try clear c106); (try clear c107); (try clear c108); (try clear c109); (try clear c112); (try clear c112b0); (try clear c114); (try clear c114b0); (try clear c115); (try clear c115b0); (try clear c118); (try clear c119); (try clear c120); (try clear c121); (try clear c122); (try clear c123); (try clear c125); (try clear c126); (try clear c127); (try clear c128); (try clear c129); (try clear c131); (try clear c132); (try clear c133); (try clear c134); (try clear c135); (try clear c136); (try clear c138); (try clear c138b0); (try clear c139); (try clear c139b0); (try clear c140); (try clear c141); (try clear c142); (try clear c143); (try clear c144); (try clear c145); (try clear c147); (try clear c147b0); (try clear c151); (try clear c151b0); (try clear c153); (try clear c154); (try clear c155); (try clear c156); (try clear c157); (try clear c158); (try clear c161); (try clear c161b0); (try clear c163); (try clear c163b0); (try clear c164); (try clear c164b0); (try clear c167); (try clear c168); (try clear c169); (try clear c170); (try clear c171); (try clear c172); (try clear c174); (try clear c175); (try clear c176); (try clear c177); (try clear c178); (try clear c180); (try clear c181); (try clear c182); (try clear c183); (try clear c184); (try clear c185); (try clear c187); (try clear c187b0); (try clear c188); (try clear c188b0); (try clear c189); (try clear c190); (try clear c191); (try clear c192); (try clear c193); (try clear c194); (try clear c196); (try clear c196b0); (try clear c199); (try clear c200); (try clear c201); (try clear c202); (try clear c203); (try clear c204); (try clear hcz10_0); (try clear hcz10_1); (try clear hcz10_2); (try clear hcz110_0); (try clear hcz110_1); (try clear hcz110_2); (try clear hcz124_0); (try clear hcz124_1); (try clear hcz124_2); (try clear hcz12_0); (try clear hcz12_1); (try clear hcz12_2); (try clear hcz130_0); (try clear hcz130_1); (try clear hcz130_2); (try clear hcz137_0); (try clear hcz137_1); (try clear hcz137_2); (try clear hcz146_0); (try clear hcz146_1); (try clear hcz146_2); (try clear hcz159_0); (try clear hcz159_1); (try clear hcz159_2); (try clear hcz173_0)
                       (try clear hcz173_1); (try clear hcz173_2); (try clear hcz179_0); (try clear hcz179_1); (try clear hcz179_2); (try clear hcz186_0); (try clear hcz186_1); (try clear hcz186_2); (try clear hcz195_0); (try clear hcz195_1); (try clear hcz195_2); (try clear hcz205_0); (try clear hcz205_1); (try clear hcz205_2); (try clear hcz32_0); (try clear hcz32_1); (try clear hcz32_2); (try clear hcz34_0); (try clear hcz34_1); (try clear hcz34_2); (try clear hcz42_0); (try clear hcz42_1); (try clear hcz42_2); (try clear hcz47_0); (try clear hcz47_1); (try clear hcz47_2); (try clear hcz49_0); (try clear hcz49_1); (try clear hcz49_2); (try clear hcz55_0); (try clear hcz55_1); (try clear hcz55_2); (try clear hcz57_0); (try clear hcz57_1); (try clear hcz57_2); (try clear hcz64_0); (try clear hcz64_1); (try clear hcz64_2); (try clear hcz66_0); (try clear hcz66_1); (try clear hcz66_2); (try clear hcz74_0); (try clear hcz74_1); (try clear hcz74_2); (try clear hcz84_0); (try clear hcz84_1); (try clear hcz84_2); (try clear hcz86_0); (try clear hcz86_1); (try clear hcz86_2); (try clear hcz87_0); (try clear hcz87_1); (try clear hcz87_2); (try clear hcz89_0); (try clear hcz89_1); (try clear hcz89_2); (try clear hcz90_0); (try clear hcz90_1); (try clear hcz90_2); (try clear hcz92_0); (try clear hcz92_1); (try clear hcz92_2); (try clear hcz93_0); (try clear hcz93_1); (try clear hcz93_2); (try clear hfz10_0); (try clear hfz10_1); (try clear hfz10_2); (try clear hfz110_0); (try clear hfz110_1); (try clear hfz110_2); (try clear hfz124_0); (try clear hfz124_1); (try clear hfz124_2); (try clear hfz12_0); (try clear hfz12_1); (try clear hfz12_2); (try clear hfz130_0); (try clear hfz130_1); (try clear hfz130_2); (try clear hfz137_0); (try clear hfz137_1); (try clear hfz137_2); (try clear hfz146_0); (try clear hfz146_1); (try clear hfz146_2); (try clear hfz159_0); (try clear hfz159_1); (try clear hfz159_2); (try clear hfz173_0); (try clear hfz173_1); (try clear hfz173_2); (try clear hfz179_0); (try clear hfz179_1); (try clear hfz179_2); (try clear hfz186_0); (try clear hfz186_1); (try clear hfz186_2); (try clear hfz195_0); (try clear hfz195_1); (try clear hfz195_2); (try clear hfz205_0); (try clear hfz205_1); (try clear hfz205_2); (try clear hfz32_0); (try clear hfz32_1); (try clear hfz32_2); (try clear hfz34_0); (try clear hfz34_1); (try clear hfz34_2); (try clear hfz42_0); (try clear hfz42_1); (try clear hfz42_2); (try clear hfz47_0); (try clear hfz47_1); (try clear hfz47_2); (try clear hfz49_0); (try clear hfz49_1); (try clear hfz49_2); (try clear hfz55_0); (try clear hfz55_1); (try clear hfz55_2); (try clear hfz57_0); (try clear hfz57_1); (try clear hfz57_2); (try clear hfz64_0); (try clear hfz64_1); (try clear hfz64_2); (try clear hfz66_0); (try clear hfz66_1); (try clear hfz66_2); (try clear hfz74_0); (try clear hfz74_1); (try clear hfz74_2); (try clear hfz84_0); (try clear hfz84_1); (try clear hfz84_2); (try clear hfz86_0); (try clear hfz86_1); (try clear hfz86_2); (try clear hfz87_0); (try clear hfz87_1); (try clear hfz87_2); (try clear hfz89_0); (try clear hfz89_1); (try clear hfz89_2); (try clear hfz90_0); (try clear hfz90_1); (try clear hfz90_2); (try clear hfz92_0); (try clear hfz92_1); (try clear hfz92_2); (try clear hfz93_0); (try clear hfz93_1); (try clear hfz93_2); (try clear hx334_0); (try clear hx335_0); (try clear hx336_0); (try clear p2); (try clear p3); (try clear p33); (try clear p334); (try clear p335); (try clear p336); (try clear p6); (try clear p64); (try clear q3); (try clear q33); (try clear q334); (try clear q335); (try clear q336); (try clear q36)
                       obtain ⟨x25_2, x26_2, x27_2, rfl, rfl, rfl, HA, HK2, HO_123, HO_303002, HO_310002, HO_317002, HO_324002, HO_331002, BK288, BK295, BK302, BK309, BK316, BK323, BK330, HB⟩ := hrel
                       cases gk with
                       | zero => exact absurd HA.out (by simp [barscanlaw43_PrintingMeans.l1])
                       | succ k2 =>
                        have H := HA.out
                        clear HA
                        simp only [barscanlaw43_PrintingMeans.l1] at H
                        obtain ⟨ji206, hji206⟩ : ∃ j_ : Int, (mn (wrap64 (a0_1 - 1)) (wrap64 ((wrap64 (Int.tdiv x125_1 a0_0)) + (wrap64 (Int.tmod a2 8))))) = j_ := ⟨_, rfl⟩
                        replace H : (if x27_2 ≤ (ji206) then (barscanlaw43_PrintingMeans.l2 k2 (wrap64 (Int.tmod a2 8)) (rd t305 x125_1) (Int.tmod x125_1 a0_0) (wrap64 (Int.tdiv x125_1 a0_0)) x25_2 x26_2 x27_2 (mx 0 (wrap64 ((Int.tmod x125_1 a0_0) - (wrap64 (Int.tmod a2 8))))) t305 (t305.length : Int) x125_1 a0_0 a0_1 l0_2 a0_0 a0_1 y291) else (if (rd t305 x125_1) < x25_2 then (none) else (if (rd t305 x125_1) > x26_2 then (none) else (barscanlaw43_PrintingMeans.l0 k2 (wrap64 (Int.tmod a2 8)) t305 (t305.length : Int) (wrap64 (x125_1 + 1)) a0_0 a0_1 l0_2 a0_0 a0_1 y291)))) = some r := by first | (rw [hji206] at H; exact H) | (simp only [hji206] at H ⊢; exact H)
                        have hji206_ : (if (wrap64 ((wrap64 (Int.tdiv x125_1 a0_0)) + (wrap64 (Int.tmod a2 8)))) < (wrap64 (a0_1 - 1)) then (wrap64 ((wrap64 (Int.tdiv x125_1 a0_0)) + (wrap64 (Int.tmod a2 8)))) else (wrap64 (a0_1 - 1))) = ji206 := hji206
                        by_cases c207 : x27_2 ≤ (ji206)
                        ·rw [if_pos c207] at H
                         have c207b0 : decide (x27_2 ≤ (ji206)) = true := decide_eq_true c207
                         clear c207
                         obtain ⟨ji208, hji208⟩ : ∃ j_ : Int, (mx 0 (wrap64 ((Int.tmod x125_1 a0_0) - (wrap64 (Int.tmod a2 8))))) = j_ := ⟨_, rfl⟩
                         replace H : (barscanlaw43_PrintingMeans.l2 k2 (wrap64 (Int.tmod a2 8)) (rd t305 x125_1) (Int.tmod x125_1 a0_0) (wrap64 (Int.tdiv x125_1 a0_0)) x25_2 x26_2 x27_2 ji208 t305 (t305.length : Int) x125_1 a0_0 a0_1 l0_2 a0_0 a0_1 y291) = some r := by first | (rw [hji208] at H; exact H) | (simp only [hji208] at H ⊢; exact H)
                         have hji208_ : (if 0 < (wrap64 ((Int.tmod x125_1 a0_0) - (wrap64 (Int.tmod a2 8)))) then (wrap64 ((Int.tmod x125_1 a0_0) - (wrap64 (Int.tmod a2 8)))) else 0) = ji208 := hji208
                         have H' := Aside0.mk H
                         clear H
                         have hnb209 := NB288_295.out
                         have hnc209 := NB295_288.out
                         have hnb210 := NB288_302.out
                         have hnc210 := NB302_288.out
                         have hnb211 := NB288_309.out
                         have hnc211 := NB309_288.out
                         have hnb212 := NB288_316.out
                         have hnc212 := NB316_288.out
                         have hnb213 := NB288_323.out
                         have hnc213 := NB323_288.out
                         have hnb214 := NB288_330.out
                         have hnc214 := NB330_288.out
                         have hcz215_0 : wr.cell? ⟨gb288, 0, none⟩ = some (.int .i64 a0_0) := (blk_cell BK288.out 0).trans rfl
                         have hcz215_1 : wr.cell? ⟨gb288, 1, none⟩ = some (.int .i64 a0_1) := (blk_cell BK288.out 1).trans rfl
                         have hcz215_2 : wr.cell? ⟨gb288, 2, none⟩ = some (.slice A0_2 l0_2.length c0_2) := (blk_cell BK288.out 2).trans rfl
                         have hfz215_0 := blk_frozen BK288.out 0
                         have hfz215_1 := blk_frozen BK288.out 1
                         have hfz215_2 := blk_frozen BK288.out 2
                         go_wp2
                         go_loopg [25, 26, 28] k2 (fun kq v25 v26 v28 w' => ∃ (x25_3 : Int) (x26_3 : Int) (x28_3 : Int), v25 = .int .u8 x25_3 ∧ v26 = .int .u8 x26_3 ∧ v28 = .int .i64 x28_3 ∧ Aside0 (barscanlaw43_PrintingMeans.l2 kq (wrap64 (Int.tmod a2 8)) (rd t305 x125_1) (Int.tmod x125_1 a0_0) (wrap64 (Int.tdiv x125_1 a0_0)) x25_3 x26_3 x27_2 x28_3 t305 (t305.length : Int) x125_1 a0_0 a0_1 l0_2 a0_0 a0_1 y291 = some r) ∧ Aside0 (kq ≤ k2) ∧ Aside0 (Kd.R (Kd.int .u8) 5 w' w.heap.size (fun k_ => some k_ ≠ ((.slice Ao48 t298.length co48) : Value).ownBlock ∧ some k_ ≠ ((.slice Ao65 t312.length co65) : Value).ownBlock ∧ some k_ ≠ ((.slice Ao85 t326.length co85) : Value).ownBlock) (.slice (some ad334) t305.length co56) t305) ∧ Aside0 (Kd.R (Kd.int .u8) 5 w' w.heap.size (fun k_ => some k_ ≠ ((.slice (some ad334) t305.length co56) : Value).ownBlock ∧ some k_ ≠ ((.slice (some ad334) t305.length co56) : Value).ownBlock ∧ some k_ ≠ ((.slice Ao65 t312.length co65) : Value).ownBlock ∧ some k_ ≠ ((.slice Ao85 t326.length co85) : Value).ownBlock) (.slice Ao48 t298.length co48) t298) ∧ Aside0 (Kd.R (Kd.int .u8) 5 w' w.heap.size (fun k_ => some k_ ≠ ((.slice Ao48 t298.length co48) : Value).ownBlock ∧ some k_ ≠ ((.slice Ao65 t312.length co65) : Value).ownBlock ∧ some k_ ≠ ((.slice Ao85 t326.length co85) : Value).ownBlock) (.slice (some ad334) t305.length co56) t305) ∧ Aside0 (Kd.R (Kd.int .u8) 5 w' w.heap.size (fun k_ => some k_ ≠ ((.slice (some ad334) t305.length co56) : Value).ownBlock ∧ some k_ ≠ ((.slice Ao48 t298.length co48) : Value).ownBlock ∧ some k_ ≠ ((.slice (some ad334) t305.length co56) : Value).ownBlock ∧ some k_ ≠ ((.slice Ao85 t326.length co85) : Value).ownBlock) (.slice Ao65 t312.length co65) t312) ∧ Aside0 (Kd.R Kd.bool 4 w' w.heap.size (fun _ => True) (.slice Ao75 t319.length co75) t319) ∧ Aside0 (Kd.R (Kd.int .u8) 5 w' w.heap.size (fun k_ => some k_ ≠ ((.slice (some ad334) t305.length co56) : Value).ownBlock ∧ some k_ ≠ ((.slice Ao48 t298.length co48) : Value).ownBlock ∧ some k_ ≠ ((.slice (some ad334) t305.length co56) : Value).ownBlock ∧ some k_ ≠ ((.slice Ao65 t312.length co65) : Value).ownBlock) (.slice Ao85 t326.length co85) t326) ∧ Aside0 (w'.heap[gb288]? = some (.cells #[.int .i64 a0_0, .int .i64 a0_1, (.slice A0_2 l0_2.length c0_2)] 33 (0, 0))) ∧ Aside0 (w'.heap[gb295]? = some (.cells #[.int .i64 a0_0, .int .i64 a0_1, (.slice A1 y291.length c1)] 24 (0, 0))) ∧ Aside0 (w'.heap[gb302]? = some (.cells #[.int .i64 t296, .int .i64 t297, (.slice Ao48 t298.length co48)] 24 (0, 0))) ∧ Aside0 (w'.heap[gb309]? = some (.cells #[.int .i64 t303, .int .i64 t304, (.slice (some ad334) t305.length co56)] 24 (0, 0))) ∧ Aside0 (w'.heap[gb316]? = some (.cells #[.int .i64 t310, .int .i64 t311, (.slice Ao65 t312.length co65)] 24 (0, 0))) ∧ Aside0 (w'.heap[gb323]? = some (.cells #[.int .i64 t317, .int .i64 t318, (.slice Ao75 t319.length co75)] 33 (0, 0))) ∧ Aside0 (w'.heap[gb330]? = some (.cells #[.int .i64 t324, .int .i64 t325, (.slice Ao85 t326.length co85)] 24 (0, 0))) ∧ Aside0 (Below w.heap.size w w'))
                         case atStart => exact ⟨(x25_2), (x26_2), (ji208), (by first | rfl | (simp; done) | (simp [*]; done)), (by first | rfl | (simp; done) | (simp [*]; done)), (by first | rfl | (simp; done) | (simp only [← hji208] <;> (first | rfl | simp)) | (simp [*]; done)), H', ⟨Nat.le_refl _⟩, ⟨rkx HO_123⟩, ⟨rkx HO_303002⟩, ⟨rkx HO_310002⟩, ⟨rkx HO_317002⟩, ⟨rkx HO_324002⟩, ⟨rkx HO_331002⟩, ⟨bkx BK288⟩, ⟨bkx BK295⟩, ⟨bkx BK302⟩, ⟨bkx BK309⟩, ⟨bkx BK316⟩, ⟨bkx BK323⟩, ⟨bkx BK330⟩, ⟨hb7 HB GE288 GE295 GE302 GE309 GE316 GE323 GE330⟩⟩
                         case round =>
                          clear H'
                          (try clear c1); (try clear c2); (try clear p2); (try clear c3); (try clear p3); (try clear q3); (try clear hx3); (try clear c4); (try clear c5); (try clear c6); (try clear p6); (try clear c7); (try clear c8); (try clear c9); (try clear c10); (try clear c11); (try clear c12); (try clear c13); (try clear c14); (try clear c15); (try clear c16); (try clear c17); (try clear c18); (try clear c19); (try clear c20); (try clear c21); (try clear c21b0); (try clear c21b1); (try clear c22); (try clear c22b0); (try clear c22b1); (try clear c23); (try clear c23b0); (try clear c23b1); (try clear c24); (try clear c24b0); (try clear c24b1); (try clear c25); (try clear c25b0); (try clear c25b1); (try clear c27); (try clear c29); (try clear c30); (try clear c30b0); (try clear c30b1); (try clear c30b2); (try clear p33); (try clear q33); (try clear hx33); (try clear q36); (try clear c41); (try clear c45); (try clear c46); (try clear c52); (try clear c53); (try clear c54); (try clear c60); (try clear c61); (try clear c62); (try clear c63); (try clear p64); (try clear c69); (try clear c70); (try clear c71); (try clear c72); (try clear c73); (try clear c78); (try clear c79); (try clear c80); (try clear c81); (try clear c82); (try clear c83); (try clear c94); (try clear c94b0); (try clear c95); (try clear c95b0); (try clear c96); (try clear c96b0); (try clear c97); (try clear c97b0); (try clear c97b1); (try clear c98); (try clear c98b0); (try clear c102); (try clear c102b0); (try clear c104); (try clear c105); (try clear c106); (try clear c107); (try clear c108); (try clear c109); (try clear c112); (try clear c112b0); (try clear c114); (try clear c114b0); (try clear c115); (try clear c115b0); (try clear c118); (try clear c119); (try clear c120); (try clear c121); (try clear c122); (try clear c123); (try clear c125); (try clear c126); (try clear c127); (try clear c128); (try clear c129); (try clear c131); (try clear c132); (try clear c133); (try clear c134); (try clear c135); (try clear c136); (try clear c138); (try clear c138b0); (try clear c139); (try clear c139b0); (try clear c140); (try clear c141); (try clear c142); (try clear c143); (try clear c144); (try clear c145); (try clear c147); (try clear c147b0); (try clear c151); (try clear c151b0); (try clear c153); (try clear c154); (try clear c155); (try clear c156); (try clear c157); (try clear c158); (try clear c161); (try clear c161b0); (try clear c163); (try clear c163b0); (try clear c164); (try clear c164b0); (try clear c167); (try clear c168); (try clear c169); (try clear c170); (try clear c171); (try clear c172); (try clear c174); (try clear c175); (try clear c176); (try clear c177); (try clear c178); (try clear c180); (try clear c181); (try clear c182); (try clear c183); (try clear c184); (try clear c185); (try clear c187); (try clear c187b0); (try clear c188); (try clear c188b0); (try clear c189); (try clear c190); (try clear c191); (try clear c192); (try clear c193); (try clear c194); (try clear c196); (try clear c196b0); (try clear c199); (try clear c200); (try clear c201); (try clear c202); (try clear c203); (try clear c204); (try clear c207); (try clear c207b0); (try clear c209); (try clear c210); (try clear c211); (try clear c212); (try clear c213); (try clear c214); (try clear hcz10_0); (try clear hcz10_1); (try clear hcz10_2); (try clear hcz110_0); (try clear hcz110_1); (try clear hcz110_2); (try clear hcz124_0); (try clear hcz124_1); (try clear hcz124_2); (try clear hcz12_0); (try clear hcz12_1); (try clear hcz12_2); (try clear hcz130_0); (try clear hcz130_1); (try clear hcz130_2); (try clear hcz137_0); (try clear hcz137_1)
                          (try clear hcz137_2); (try clear hcz146_0); (try clear hcz146_1); (try clear hcz146_2); (try clear hcz159_0); (try clear hcz159_1); (try clear hcz159_2); (try clear hcz173_0); (try clear hcz173_1); (try clear hcz173_2); (try clear hcz179_0); (try clear hcz179_1); (try clear hcz179_2); (try clear hcz186_0); (try clear hcz186_1); (try clear hcz186_2); (try clear hcz195_0); (try clear hcz195_1); (try clear hcz195_2); (try clear hcz205_0); (try clear hcz205_1); (try clear hcz205_2); (try clear hcz215_0); (try clear hcz215_1); (try clear hcz215_2); (try clear hcz32_0); (try clear hcz32_1); (try clear hcz32_2); (try clear hcz34_0); (try clear hcz34_1); (try clear hcz34_2); (try clear hcz42_0); (try clear hcz42_1); (try clear hcz42_2); (try clear hcz47_0); (try clear hcz47_1); (try clear hcz47_2); (try clear hcz49_0); (try clear hcz49_1); (try clear hcz49_2); (try clear hcz55_0); (try clear hcz55_1); (try clear hcz55_2); (try clear hcz57_0); (try clear hcz57_1); (try clear hcz57_2); (try clear hcz64_0); (try clear hcz64_1); (try clear hcz64_2); (try clear hcz66_0); (try clear hcz66_1); (try clear hcz66_2); (try clear hcz74_0); (try clear hcz74_1); (try clear hcz74_2); (try clear hcz84_0); (try clear hcz84_1); (try clear hcz84_2); (try clear hcz86_0); (try clear hcz86_1); (try clear hcz86_2); (try clear hcz87_0); (try clear hcz87_1); (try clear hcz87_2); (try clear hcz89_0); (try clear hcz89_1); (try clear hcz89_2); (try clear hcz90_0); (try clear hcz90_1); (try clear hcz90_2); (try clear hcz92_0); (try clear hcz92_1); (try clear hcz92_2); (try clear hcz93_0); (try clear hcz93_1); (try clear hcz93_2); (try clear hfz10_0); (try clear hfz10_1); (try clear hfz10_2); (try clear hfz110_0); (try clear hfz110_1); (try clear hfz110_2); (try clear hfz124_0); (try clear hfz124_1); (try clear hfz124_2); (try clear hfz12_0); (try clear hfz12_1); (try clear hfz12_2); (try clear hfz130_0); (try clear hfz130_1); (try clear hfz130_2); (try clear hfz137_0); (try clear hfz137_1); (try clear hfz137_2); (try clear hfz146_0); (try clear hfz146_1); (try clear hfz146_2); (try clear hfz159_0); (try clear hfz159_1); (try clear hfz159_2); (try clear hfz173_0); (try clear hfz173_1); (try clear hfz173_2); (try clear hfz179_0); (try clear hfz179_1); (try clear hfz179_2); (try clear hfz186_0); (try clear hfz186_1); (try clear hfz186_2); (try clear hfz195_0); (try clear hfz195_1); (try clear hfz195_2); (try clear hfz205_0); (try clear hfz205_1); (try clear hfz205_2); (try clear hfz215_0); (try clear hfz215_1); (try clear hfz215_2); (try clear hfz32_0); (try clear hfz32_1); (try clear hfz32_2); (try clear hfz34_0); (try clear hfz34_1); (try clear hfz34_2); (try clear hfz42_0); (try clear hfz42_1); (try clear hfz42_2); (try clear hfz47_0); (try clear hfz47_1); (try clear hfz47_2); (try clear hfz49_0); (try clear hfz49_1); (try clear hfz49_2); (try clear hfz55_0); (try clear hfz55_1); (try clear hfz55_2); (try clear hfz57_0); (try clear hfz57_1); (try clear hfz57_2); (try clear hfz64_0); (try clear hfz64_1); (try clear hfz64_2); (try clear hfz66_0); (try clear hfz66_1); (try clear hfz66_2); (try clear hfz74_0); (try clear hfz74_1); (try clear hfz74_2); (try clear hfz84_0); (try clear hfz84_1); (try clear hfz84_2); (try clear hfz86_0); (try clear hfz86_1); (try clear hfz86_2); (try clear hfz87_0); (try clear hfz87_1); (try clear hfz87_2); (try clear hfz89_0); (try clear hfz89_1); (try clear hfz89_2); (try clear hfz90_0); (try clear hfz90_1); (try clear hfz90_2); (try clear hfz92_0); (try clear hfz92_1); (try clear hfz92_2); (try clear hfz93_0); (try clear hfz93_1); (try clear hfz93_2); (try clear hx334_0); (try clear hx335_0); (try clear hx336_0); (try clear p2); (try clear p3); (try clear p33); (try clear p334); (try clear p335); (try clear p336); (try clear p6); (try clear p64); (try clear q3); (try clear q33); (try clear q334); (try clear q335); (try clear q336); (try clear q36)
                          obtain ⟨x25_3, x26_3, x28_3, rfl, rfl, rfl, HA, HK3, HO_123, HO_303002, HO_310002, HO_317002, HO_324002, HO_331002, BK288, BK295, BK302, BK309, BK316, BK323, BK330, HB⟩ := hrel
                          cases gk with
                          | zero => exact absurd HA.out (by simp [barscanlaw43_PrintingMeans.l2])
                          | succ k3 =>
                           have H := HA.out
                           clear HA
                           simp only [barscanlaw43_PrintingMeans.l2] at H
                           obtain ⟨ji216, hji216⟩ : ∃ j_ : Int, (mn (wrap64 (a0_0 - 1)) (wrap64 ((Int.tmod x125_1 a0_0) + (wrap64 (Int.tmod a2 8))))) = j_ := ⟨_, rfl⟩
                           replace H : (if x28_3 ≤ (ji216) then (if 0 ≤ (wrap64 ((wrap64 (x27_2 * a0_0)) + x28_3)) then (if (wrap64 ((wrap64 (x27_2 * a0_0)) + x28_3)) < (y291.length : Int) then (barscanlaw43_PrintingMeans.l2 k3 (wrap64 (Int.tmod a2 8)) (rd t305 x125_1) (Int.tmod x125_1 a0_0) (wrap64 (Int.tdiv x125_1 a0_0)) (mn x25_3 (rd y291 (wrap64 ((wrap64 (x27_2 * a0_0)) + x28_3)))) (mx x26_3 (rd y291 (wrap64 ((wrap64 (x27_2 * a0_0)) + x28_3)))) x27_2 (wrap64 (x28_3 + 1)) t305 (t305.length : Int) x125_1 a0_0 a0_1 l0_2 a0_0 a0_1 y291) else (none)) else (none)) else (barscanlaw43_PrintingMeans.l1 k3 (wrap64 (Int.tmod a2 8)) (rd t305 x125_1) (Int.tmod x125_1 a0_0) (wrap64 (Int.tdiv x125_1 a0_0)) x25_3 x26_3 (wrap64 (x27_2 + 1)) t305 (t305.length : Int) x125_1 a0_0 a0_1 l0_2 a0_0 a0_1 y291)) = some r := by first | (rw [hji216] at H; exact H) | (simp only [hji216] at H ⊢; exact H)
                           have hji216_ : (if (wrap64 ((Int.tmod x125_1 a0_0) + (wrap64 (Int.tmod a2 8)))) < (wrap64 (a0_0 - 1)) then (wrap64 ((Int.tmod x125_1 a0_0) + (wrap64 (Int.tmod a2 8)))) else (wrap64 (a0_0 - 1))) = ji216 := hji216
                           by_cases c217 : x28_3 ≤ (ji216)
                           ·rw [if_pos c217] at H
                            have c217b0 : decide (x28_3 ≤ (ji216)) = true := decide_eq_true c217
                            clear c217
                            obtain ⟨ji218, hji218⟩ : ∃ j_ : Int, (wrap64 ((wrap64 (x27_2 * a0_0)) + x28_3)) = j_ := ⟨_, rfl⟩
                            replace H : (if 0 ≤ (ji218) then (if (ji218) < (y291.length : Int) then (barscanlaw43_PrintingMeans.l2 k3 (wrap64 (Int.tmod a2 8)) (rd t305 x125_1) (Int.tmod x125_1 a0_0) (wrap64 (Int.tdiv x125_1 a0_0)) (mn x25_3 (rd y291 (ji218))) (mx x26_3 (rd y291 (ji218))) x27_2 (wrap64 (x28_3 + 1)) t305 (t305.length : Int) x125_1 a0_0 a0_1 l0_2 a0_0 a0_1 y291) else (none)) else (none)) = some r := by first | (rw [hji218] at H; exact H) | (simp only [hji218] at H ⊢; exact H)
                            have hji218w : (IntKind.i64.wrap ((wrap64 (x27_2 * a0_0)) + x28_3)) = ji218 := (i64_w _).trans hji218
                            by_cases c219 : 0 ≤ (ji218)
                            ·rw [if_pos c219] at H
                             have c219b0 : decide (0 ≤ (ji218)) = true := decide_eq_true c219
                             clear c219
                             by_cases c220 : (ji218) < (y291.length : Int)
                             ·rw [if_pos c220] at H
                              have c220b0 : decide ((ji218) < (y291.length : Int)) = true := decide_eq_true c220
                              clear c220
                              obtain ⟨ji221, hji221⟩ : ∃ j_ : Int, (mn x25_3 (rd y291 (ji218))) = j_ := ⟨_, rfl⟩
                              replace H : (barscanlaw43_PrintingMeans.l2 k3 (wrap64 (Int.tmod a2 8)) (rd t305 x125_1) (Int.tmod x125_1 a0_0) (wrap64 (Int.tdiv x125_1 a0_0)) ji221 (mx x26_3 (rd y291 (ji218))) x27_2 (wrap64 (x28_3 + 1)) t305 (t305.length : Int) x125_1 a0_0 a0_1 l0_2 a0_0 a0_1 y291) = some r := by first | (rw [hji221] at H; exact H) | (simp only [hji221] at H ⊢; exact H)
                              have hji221_ : (if (rd y291 (ji218)) < x25_3 then (rd y291 (ji218)) else x25_3) = ji221 := hji221
                              obtain ⟨ji222, hji222⟩ : ∃ j_ : Int, (mx x26_3 (rd y291 (ji218))) = j_ := ⟨_, rfl⟩
                              replace H : (barscanlaw43_PrintingMeans.l2 k3 (wrap64 (Int.tmod a2 8)) (rd t305 x125_1) (Int.tmod x125_1 a0_0) (wrap64 (Int.tdiv x125_1 a0_0)) ji221 ji222 x27_2 (wrap64 (x28_3 + 1)) t305 (t305.length : Int) x125_1 a0_0 a0_1 l0_2 a0_0 a0_1 y291) = some r := by first | (rw [hji222] at H; exact H) | (simp only [hji222] at H ⊢; exact H)
                              have hji222_ : (if x26_3 < (rd y291 (ji218)) then (rd y291 (ji218)) else x26_3) = ji222 := hji222
                              have H' := Aside0.mk H
                              clear H
                              have hnb223 := NB288_295.out
                              have hnc223 := NB295_288.out
                              have hnb224 := NB288_302.out
                              have hnc224 := NB302_288.out
                              have hnb225 := NB288_309.out
                              have hnc225 := NB309_288.out
                              have hnb226 := NB288_316.out
                              have hnc226 := NB316_288.out
                              have hnb227 := NB288_323.out
                              have hnc227 := NB323_288.out
                              have hnb228 := NB288_330.out
                              have hnc228 := NB330_288.out
                              have hcz229_0 : wr.cell? ⟨gb288, 0, none⟩ = some (.int .i64 a0_0) := (blk_cell BK288.out 0).trans rfl
                              have hcz229_1 : wr.cell? ⟨gb288, 1, none⟩ = some (.int .i64 a0_1) := (blk_cell BK288.out 1).trans rfl
                              have hcz229_2 : wr.cell? ⟨gb288, 2, none⟩ = some (.slice A0_2 l0_2.length c0_2) := (blk_cell BK288.out 2).trans rfl
                              have hfz229_0 := blk_frozen BK288.out 0
                              have hfz229_1 := blk_frozen BK288.out 1
                              have hfz229_2 := blk_frozen BK288.out 2
                              have hnb230 := NB295_302.out
                              have hnc230 := NB302_295.out
                              have hnb231 := NB295_309.out
                              have hnc231 := NB309_295.out
                              have hnb232 := NB295_316.out
                              have hnc232 := NB316_295.out
                              have hnb233 := NB295_323.out
                              have hnc233 := NB323_295.out
                              have hnb234 := NB295_330.out
                              have hnc234 := NB330_295.out
                              have hcz235_0 : wr.cell? ⟨gb295, 0, none⟩ = some (.int .i64 a0_0) := (blk_cell BK295.out 0).trans rfl
                              have hcz235_1 : wr.cell? ⟨gb295, 1, none⟩ = some (.int .i64 a0_1) := (blk_cell BK295.out 1).trans rfl
                              have hcz235_2 : wr.cell? ⟨gb295, 2, none⟩ = some (.slice A1 y291.length c1) := (blk_cell BK295.out 2).trans rfl
                              have hfz235_0 := blk_frozen BK295.out 0
                              have hfz235_1 := blk_frozen BK295.out 1
                              have hfz235_2 := blk_frozen BK295.out 2
                              have p335 : 0 ≤ ((ji218) : Int) := of_decide_eq_true (by first | (with_reducible assumption) | assumption)
                              have q335 : (ji218) < (y291.length : Int) := of_decide_eq_true (by first | (with_reducible assumption) | assumption)
                              obtain ⟨ad335, e335, hx335_0⟩ := Kd.at_int HR294.out (ji218) p335 q335
                              cases e335
                              replace hx335_0 := (HB.out.cell (World.block_lt_of_cell? w _ hx335_0)).trans hx335_0
                              replace p335 := eq_true p335
                              replace q335 := eq_true q335
                              have p336 : 0 ≤ ((ji218) : Int) := of_decide_eq_true (by first | (with_reducible assumption) | assumption)
                              have q336 : (ji218) < (y291.length : Int) := of_decide_eq_true (by first | (with_reducible assumption) | assumption)
                              obtain ⟨ad336, e336, hx336_0⟩ := Kd.at_int HR294.out (ji218) p336 q336
                              obtain rfl : ad335 = ad336 := (by injection e336)
                              replace hx336_0 := (HB.out.cell (World.block_lt_of_cell? w _ hx336_0)).trans hx336_0
                              replace p336 := eq_true p336
                              replace q336 := eq_true q336
                              go_wp2
                              go_roundg k3
                              case measure => have := HK1.out; have := HK2.out; have := HK3.out; omega
                              case rel => exact ⟨(ji221), (ji222), (wrap64 (x28_3 + 1)), (by first | rfl | (simp; done) | (simp only [← hji221] <;> (first | rfl | simp)) | (simp [*]; done)), (by first | rfl | (simp; done) | (simp only [← hji222] <;> (first | rfl | simp)) | (simp [*]; done)), (by first | rfl | (simp; done) | (simp [*]; done)), H', ⟨by have := HK1.out; have := HK2.out; have := HK3.out; omega⟩, ⟨rkx HO_123⟩, ⟨rkx HO_303002⟩, ⟨rkx HO_310002⟩, ⟨rkx HO_317002⟩, ⟨rkx HO_324002⟩, ⟨rkx HO_331002⟩, ⟨bkx BK288⟩, ⟨bkx BK295⟩, ⟨bkx BK302⟩, ⟨bkx BK309⟩, ⟨bkx BK316⟩, ⟨bkx BK323⟩, ⟨bkx BK330⟩, ⟨hb7 HB GE288 GE295 GE302 GE309 GE316 GE323 GE330⟩⟩
                             ·rw [if_neg c220] at H
                              exact absurd H (by simp)
                            ·rw [if_neg c219] at H
                             exact absurd H (by simp)
                           ·rw [if_neg c217] at H
                            have c217b0 : decide (x28_3 ≤ (ji216)) = false := decide_eq_false c217
                            clear c217
                            have H' := Aside0.mk H
                            clear H
                            have hnb236 := NB288_295.out
                            have hnc236 := NB295_288.out
                            have hnb237 := NB288_302.out
                            have hnc237 := NB302_288.out
                            have hnb238 := NB288_309.out
                            have hnc238 := NB309_288.out
                            have hnb239 := NB288_316.out
                            have hnc239 := NB316_288.out
                            have hnb240 := NB288_323.out
                            have hnc240 := NB323_288.out
                            have hnb241 := NB288_330.out
                            have hnc241 := NB330_288.out
                            have hcz242_0 : wr.cell? ⟨gb288, 0, none⟩ = some (.int .i64 a0_0) := (blk_cell BK288.out 0).trans rfl
                            have hcz242_1 : wr.cell? ⟨gb288, 1, none⟩ = some (.int .i64 a0_1) := (blk_cell BK288.out 1).trans rfl
                            have hcz242_2 : wr.cell? ⟨gb288, 2, none⟩ = some (.slice A0_2 l0_2.length c0_2) := (blk_cell BK288.out 2).trans rfl
                            have hfz242_0 := blk_frozen BK288.out 0
                            have hfz242_1 := blk_frozen BK288.out 1
                            have hfz242_2 := blk_frozen BK288.out 2
                            go_wp2
                            go_roundg k3
                            case measure => have := HK1.out; have := HK2.out; have := HK3.out; omega
                            case rel => exact ⟨(x25_3), (x26_3), (wrap64 (x27_2 + 1)), (by first | rfl | (simp; done) | (simp [*]; done)), (by first | rfl | (simp; done) | (simp [*]; done)), (by first | rfl | (simp; done) | (simp [*]; done)), H', ⟨by have := HK1.out; have := HK2.out; have := HK3.out; omega⟩, ⟨rkx HO_123⟩, ⟨rkx HO_303002⟩, ⟨rkx HO_310002⟩, ⟨rkx HO_317002⟩, ⟨rkx HO_324002⟩, ⟨rkx HO_331002⟩, ⟨bkx BK288⟩, ⟨bkx BK295⟩, ⟨bkx BK302⟩, ⟨bkx BK309⟩, ⟨bkx BK316⟩, ⟨bkx BK323⟩, ⟨bkx BK330⟩, ⟨hb7 HB GE288 GE295 GE302 GE309 GE316 GE323 GE330⟩⟩
                        ·rw [if_neg c207] at H
                         have c207b0 : decide (x27_2 ≤ (ji206)) = false := decide_eq_false c207
                         clear c207
                         by_cases c243 : (rd t305 x125_1) < x25_2
                         ·rw [if_pos c243] at H
                          exact absurd H (by simp)
                         ·rw [if_neg c243] at H
                          have c243b0 : decide ((rd t305 x125_1) < x25_2) = false := decide_eq_false c243
                          clear c243
                          by_cases c244 : (rd t305 x125_1) > x26_2
                          ·rw [if_pos c244] at H
                           exact absurd H (by simp)
                          ·rw [if_neg c244] at H
                           have c244b0 : decide (x26_2 < (rd t305 x125_1)) = false := decide_eq_false c244
                           clear c244
                           have H' := Aside0.mk H
                           clear H
                           have hnb245 := NB288_295.out
                           have hnc245 := NB295_288.out
                           have hnb246 := NB288_302.out
                           have hnc246 := NB302_288.out
                           have hnb247 := NB288_309.out
                           have hnc247 := NB309_288.out
                           have hnb248 := NB288_316.out
                           have hnc248 := NB316_288.out
                           have hnb249 := NB288_323.out
                           have hnc249 := NB323_288.out
                           have hnb250 := NB288_330.out
                           have hnc250 := NB330_288.out
                           have hcz251_0 : wr.cell? ⟨gb288, 0, none⟩ = some (.int .i64 a0_0) := (blk_cell BK288.out 0).trans rfl
                           have hcz251_1 : wr.cell? ⟨gb288, 1, none⟩ = some (.int .i64 a0_1) := (blk_cell BK288.out 1).trans rfl
                           have hcz251_2 : wr.cell? ⟨gb288, 2, none⟩ = some (.slice A0_2 l0_2.length c0_2) := (blk_cell BK288.out 2).trans rfl
                           have hfz251_0 := blk_frozen BK288.out 0
                           have hfz251_1 := blk_frozen BK288.out 1
                           have hfz251_2 := blk_frozen BK288.out 2
                           go_wp2
                           go_roundg k2
                           case measure => have := HK1.out; have := HK2.out; omega
                           case rel => exact ⟨(wrap64 (x125_1 + 1)), (by first | rfl | (simp; done) | (simp [*]; done)), H', ⟨by have := HK1.out; have := HK2.out; omega⟩, ⟨rkx HO_123⟩, ⟨rkx HO_303002⟩, ⟨rkx HO_310002⟩, ⟨rkx HO_317002⟩, ⟨rkx HO_324002⟩, ⟨rkx HO_331002⟩, ⟨bkx BK288⟩, ⟨bkx BK295⟩, ⟨bkx BK302⟩, ⟨bkx BK309⟩, ⟨bkx BK316⟩, ⟨bkx BK323⟩, ⟨bkx BK330⟩, ⟨hb7 HB GE288 GE295 GE302 GE309 GE316 GE323 GE330⟩⟩
                     ·rw [if_neg c196] at H
                      have c196b0 : decide (a0_0 ≤ (wrap64 ((Int.tmod x125_1 a0_0) + (wrap64 (Int.tmod a2 8))))) = false := decide_eq_false c196
                      clear c196
                      have HC252 := Aside0.mk H
                      clear H
                      have p334 : 0 ≤ (x125_1 : Int) := of_decide_eq_true (by first | (with_reducible assumption) | assumption)
                      have q334 : x125_1 < (t305.length : Int) := of_decide_eq_true (by first | (with_reducible assumption) | assumption)
                      obtain ⟨ad334, e334, hx334_0⟩ := Kd.at_int (Kd.R_reads' HO_123.out).2.2 x125_1 p334 q334
                      cases e334
                      replace p334 := eq_true p334
                      replace q334 := eq_true q334
                      try go_wp2
                      have n0_ := Aside0.mk (Kd.R_drew HO_123.out)
                      have n1_ := Aside0.mk (Kd.R_drew HO_303002.out)
                      have n2_ := Aside0.mk (Kd.R_drew HO_310002.out)
                      have n3_ := Aside0.mk (Kd.R_drew HO_317002.out)
                      have n4_ := Aside0.mk (Kd.R_drew HO_324002.out)
                      have n5_ := Aside0.mk (Kd.R_drew HO_331002.out)
                      have n6_ := Aside0.mk (blk_drew BK288.out)
                      have n7_ := Aside0.mk (blk_drew BK295.out)
                      have n8_ := Aside0.mk (blk_drew BK302.out)
                      have n9_ := Aside0.mk (blk_drew BK309.out)
                      have n10_ := Aside0.mk (blk_drew BK316.out)
                      have n11_ := Aside0.mk (blk_drew BK323.out)
                      have n12_ := Aside0.mk (blk_drew BK330.out)
                      have n13_ := Aside0.mk (below_drew1 HB.out)
                      clear HO_123
                      clear HO_303002
                      clear HO_310002
                      clear HO_317002
                      clear HO_324002
                      clear HO_331002
                      clear BK288
                      clear BK295
                      clear BK302
                      clear BK309
                      clear BK316
                      clear BK323
                      clear BK330
                      clear HB
                      have HO_123 := n0_
                      have HO_303002 := n1_
                      have HO_310002 := n2_
                      have HO_317002 := n3_
                      have HO_324002 := n4_
                      have HO_331002 := n5_
                      have BK288 := n6_
                      have BK295 := n7_
                      have BK302 := n8_
                      have BK309 := n9_
                      have BK316 := n10_
                      have BK323 := n11_
                      have BK330 := n12_
                      have HB := n13_
                      clear n0_ n1_ n2_ n3_ n4_ n5_ n6_ n7_ n8_ n9_ n10_ n11_ n12_ n13_
                      refine start_ (n := 10) (S := fun w' => w'.cell? ⟨gb288, 0, none⟩ = some (.int .i64 a0_0) ∧ w'.cell? ⟨gb288, 1, none⟩ = some (.int .i64 a0_1) ∧ w'.cell? ⟨gb288, 2, none⟩ = some (.slice A0_2 l0_2.length c0_2)) (ds := []) (bA 10 0) (by kernel_rfl) rfl rfl ⟨(blk_cell BK288.out 0).trans rfl, (blk_cell BK288.out 1).trans rfl, (blk_cell BK288.out 2).trans rfl⟩ (fun hHeld => ?_); refine with_tabW barscanlaw43_PrintingMeans.tab15 barscanlaw43_PrintingMeans.bits15 (fun HT_ HW_ => ?_)
                      generalize wr.drew = w253 at HO_123 HO_303002 HO_310002 HO_317002 HO_324002 HO_331002 BK288 BK295 BK302 BK309 BK316 BK323 BK330 HB hHeld ⊢
                      refine pt HT_ 0 130 ?_
                      refine pt HT_ 1 131 ?_
                      refine pt HT_ 4 134 ?_
                      refine pt HT_ 5 135 ?_
                      refine tk HT_ HW_ hHeld 2 132 ?_
                      refine pt HT_ 3 133 ?_
                      refine pt HT_ 8 23 ?_
                      refine tk HT_ HW_ hHeld 6 136 ?_
                      refine pt HT_ 7 137 ?_
                      refine pt HT_ 9 24 ?_
                      refine done_ (done_of HT_.out (by kernel_rfl)) ?_
                      have hnb254 := NB288_295.out
                      have hnc254 := NB295_288.out
                      have hnb255 := NB288_302.out
                      have hnc255 := NB302_288.out
                      have hnb256 := NB288_309.out
                      have hnc256 := NB309_288.out
                      have hnb257 := NB288_316.out
                      have hnc257 := NB316_288.out
                      have hnb258 := NB288_323.out
                      have hnc258 := NB323_288.out
                      have hnb259 := NB288_330.out
                      have hnc259 := NB330_288.out
                      have hcz260_0 : w253.cell? ⟨gb288, 0, none⟩ = some (.int .i64 a0_0) := (blk_cell BK288.out 0).trans rfl
                      have hcz260_1 : w253.cell? ⟨gb288, 1, none⟩ = some (.int .i64 a0_1) := (blk_cell BK288.out 1).trans rfl
                      have hcz260_2 : w253.cell? ⟨gb288, 2, none⟩ = some (.slice A0_2 l0_2.length c0_2) := (blk_cell BK288.out 2).trans rfl
                      have hfz260_0 := blk_frozen BK288.out 0
                      have hfz260_1 := blk_frozen BK288.out 1
                      have hfz260_2 := blk_frozen BK288.out 2
                      go_upto_if 161 with (fail)
                      go_cut [26] (fun v26 wc => ∃ (kq : Nat) (x26_251 : Int), v26 = .int .u8 x26_251 ∧ Aside0 (barscanlaw43_PrintingMeans.j3 kq (wrap64 (Int.tmod a2 8)) (rd t305 x125_1) (Int.tmod x125_1 a0_0) (wrap64 (Int.tdiv x125_1 a0_0)) 255 x26_251 t305 (t305.length : Int) x125_1 a0_0 a0_1 l0_2 a0_0 a0_1 y291 = some r) ∧ Aside0 (kq ≤ k1) ∧ Aside0 (Kd.R (Kd.int .u8) 5 wc w.heap.size (fun k_ => some k_ ≠ ((.slice Ao48 t298.length co48) : Value).ownBlock ∧ some k_ ≠ ((.slice Ao65 t312.length co65) : Value).ownBlock ∧ some k_ ≠ ((.slice Ao85 t326.length co85) : Value).ownBlock) (.slice (some ad334) t305.length co56) t305) ∧ Aside0 (Kd.R (Kd.int .u8) 5 wc w.heap.size (fun k_ => some k_ ≠ ((.slice (some ad334) t305.length co56) : Value).ownBlock ∧ some k_ ≠ ((.slice (some ad334) t305.length co56) : Value).ownBlock ∧ some k_ ≠ ((.slice Ao65 t312.length co65) : Value).ownBlock ∧ some k_ ≠ ((.slice Ao85 t326.length co85) : Value).ownBlock) (.slice Ao48 t298.length co48) t298) ∧ Aside0 (Kd.R (Kd.int .u8) 5 wc w.heap.size (fun k_ => some k_ ≠ ((.slice Ao48 t298.length co48) : Value).ownBlock ∧ some k_ ≠ ((.slice Ao65 t312.length co65) : Value).ownBlock ∧ some k_ ≠ ((.slice Ao85 t326.length co85) : Value).ownBlock) (.slice (some ad334) t305.length co56) t305) ∧ Aside0 (Kd.R (Kd.int .u8) 5 wc w.heap.size (fun k_ => some k_ ≠ ((.slice (some ad334) t305.length co56) : Value).ownBlock ∧ some k_ ≠ ((.slice Ao48 t298.length co48) : Value).ownBlock ∧ some k_ ≠ ((.slice (some ad334) t305.length co56) : Value).ownBlock ∧ some k_ ≠ ((.slice Ao85 t326.length co85) : Value).ownBlock) (.slice Ao65 t312.length co65) t312) ∧ Aside0 (Kd.R Kd.bool 4 wc w.heap.size (fun _ => True) (.slice Ao75 t319.length co75) t319) ∧ Aside0 (Kd.R (Kd.int .u8) 5 wc w.heap.size (fun k_ => some k_ ≠ ((.slice (some ad334) t305.length co56) : Value).ownBlock ∧ some k_ ≠ ((.slice Ao48 t298.length co48) : Value).ownBlock ∧ some k_ ≠ ((.slice (some ad334) t305.length co56) : Value).ownBlock ∧ some k_ ≠ ((.slice Ao65 t312.length co65) : Value).ownBlock) (.slice Ao85 t326.length co85) t326) ∧ Aside0 (wc.heap[gb288]? = some (.cells #[.int .i64 a0_0, .int .i64 a0_1, (.slice A0_2 l0_2.length c0_2)] 33 (0, 0))) ∧ Aside0 (wc.heap[gb295]? = some (.cells #[.int .i64 a0_0, .int .i64 a0_1, (.slice A1 y291.length c1)] 24 (0, 0))) ∧ Aside0 (wc.heap[gb302]? = some (.cells #[.int .i64 t296, .int .i64 t297, (.slice Ao48 t298.length co48)] 24 (0, 0))) ∧ Aside0 (wc.heap[gb309]? = some (.cells #[.int .i64 t303, .int .i64 t304, (.slice (some ad334) t305.length co56)] 24 (0, 0))) ∧ Aside0 (wc.heap[gb316]? = some (.cells #[.int .i64 t310, .int .i64 t311, (.slice Ao65 t312.length co65)] 24 (0, 0))) ∧ Aside0 (wc.heap[gb323]? = some (.cells #[.int .i64 t317, .int .i64 t318, (.slice Ao75 t319.length co75)] 33 (0, 0))) ∧ Aside0 (wc.heap[gb330]? = some (.cells #[.int .i64 t324, .int .i64 t325, (.slice Ao85 t326.length co85)] 24 (0, 0))) ∧ Aside0 (Below w.heap.size w wc))
                      case first =>
                       have H := HC252.out
                       clear HC252
                       by_cases c261 : (wrap64 ((wrap64 (Int.tdiv x125_1 a0_0)) + (wrap64 (Int.tmod a2 8)))) ≥ a0_1
                       ·rw [if_pos c261] at H
                        have c261b0 : decide (a0_1 ≤ (wrap64 ((wrap64 (Int.tdiv x125_1 a0_0)) + (wrap64 (Int.tmod a2 8))))) = true := decide_eq_true c261
                        clear c261
                        (first | rw [c261b0] | (simp only [i64_w, i32_w]; rw [c261b0]) | skip)
                        have H' := Aside0.mk H
                        clear H
                        go_wp2
                        go_meet
                        case rel => exact ⟨_, (255), (by first | rfl | (simp; done) | (simp [*]; done)), H', ⟨by have := HK1.out; first | omega | exact Nat.le_refl _⟩, ⟨rkx HO_123⟩, ⟨rkx HO_303002⟩, ⟨rkx HO_310002⟩, ⟨rkx HO_317002⟩, ⟨rkx HO_324002⟩, ⟨rkx HO_331002⟩, ⟨bkx BK288⟩, ⟨bkx BK295⟩, ⟨bkx BK302⟩, ⟨bkx BK309⟩, ⟨bkx BK316⟩, ⟨bkx BK323⟩, ⟨bkx BK330⟩, ⟨hb7 HB GE288 GE295 GE302 GE309 GE316 GE323 GE330⟩⟩
                       ·rw [if_neg c261] at H
                        have c261b0 : decide (a0_1 ≤ (wrap64 ((wrap64 (Int.tdiv x125_1 a0_0)) + (wrap64 (Int.tmod a2 8))))) = false := decide_eq_false c261
                        clear c261
                        (first | rw [c261b0] | (simp only [i64_w, i32_w]; rw [c261b0]) | skip)
                        have H' := Aside0.mk H
                        clear H
                        go_wp2
                        go_meet
                        case rel => exact ⟨_, (0), (by first | rfl | (simp; done) | (simp [*]; done)), H', ⟨by have := HK1.out; first | omega | exact Nat.le_refl _⟩, ⟨rkx HO_123⟩, ⟨rkx HO_303002⟩, ⟨rkx HO_310002⟩, ⟨rkx HO_317002⟩, ⟨rkx HO_324002⟩, ⟨rkx HO_331002⟩, ⟨bkx BK288⟩, ⟨bkx BK295⟩, ⟨bkx BK302⟩, ⟨bkx BK309⟩, ⟨bkx BK316⟩, ⟨bkx BK323⟩, ⟨bkx BK330⟩, ⟨hb7 HB GE288 GE295 GE302 GE309 GE316 GE323 GE330⟩⟩
                      case rest =>
                       clear HC252
                       (try clear c1); (try clear c2); (try clear p2); (try clear p3); (try clear q3); (try clear hx3); (try clear p6); (try clear c14); (try clear c15); (try clear c16); (try clear c17); (try clear c18); (try clear c19); (try clear c20); (try clear c21); (try clear c22); (try clear c23); (try clear c24); (try clear c25); (try clear c26); (try clear p33); (try clear q33); (try clear hx33); (try clear q36); (try clear p64); (try clear c145); (try clear c147); (try clear c147b0); (try clear c151); (try clear c151b0); (try clear c153); (try clear c154); (try clear c155); (try clear c156); (try clear c157); (try clear c158); (try clear c161); (try clear c161b0); (try clear c163); (try clear c163b0); (try clear c164); (try clear c164b0); (try clear c167); (try clear c168); (try clear c169); (try clear c170); (try clear c171); (try clear c172); (try clear c174); (try clear c175); (try clear c176); (try clear c177); (try clear c178); (try clear c180); (try clear c181); (try clear c182); (try clear c183); (try clear c184); (try clear c185); (try clear c187); (try clear c187b0); (try clear c188); (try clear c188b0); (try clear c189); (try clear c190); (try clear c191); (try clear c192); (try clear c193); (try clear c194); (try clear c196); (try clear c196b0); (try clear c199); (try clear c200); (try clear c201); (try clear c202); (try clear c203); (try clear c204); (try clear c207); (try clear c207b0); (try clear c209); (try clear c210); (try clear c211); (try clear c212); (try clear c213); (try clear c214); (try clear c217); (try clear c217b0); (try clear c219); (try clear c219b0); (try clear c220); (try clear c220b0); (try clear c223); (try clear c224); (try clear c225); (try clear c226); (try clear c227); (try clear c228); (try clear c230); (try clear c231); (try clear c232); (try clear c233); (try clear c234); (try clear c236); (try clear c237); (try clear c238); (try clear c239); (try clear c240); (try clear c241); (try clear c243); (try clear c243b0); (try clear c244); (try clear c244b0); (try clear c245); (try clear c246); (try clear c247); (try clear c248); (try clear c249); (try clear c250); (try clear c254); (try clear c255); (try clear c256); (try clear c257); (try clear c258); (try clear c259); (try clear c261); (try clear c261b0); (try clear hcz10_0); (try clear hcz10_1); (try clear hcz10_2); (try clear hcz110_0); (try clear hcz110_1); (try clear hcz110_2); (try clear hcz124_0); (try clear hcz124_1); (try clear hcz124_2); (try clear hcz12_0); (try clear hcz12_1); (try clear hcz12_2); (try clear hcz130_0); (try clear hcz130_1); (try clear hcz130_2); (try clear hcz137_0); (try clear hcz137_1); (try clear hcz137_2); (try clear hcz146_0); (try clear hcz146_1); (try clear hcz146_2); (try clear hcz159_0); (try clear hcz159_1); (try clear hcz159_2); (try clear hcz173_0); (try clear hcz173_1); (try clear hcz173_2); (try clear hcz179_0); (try clear hcz179_1); (try clear hcz179_2); (try clear hcz186_0); (try clear hcz186_1); (try clear hcz186_2); (try clear hcz195_0); (try clear hcz195_1); (try clear hcz195_2); (try clear hcz205_0); (try clear hcz205_1); (try clear hcz205_2); (try clear hcz215_0); (try clear hcz215_1); (try clear hcz215_2); (try clear hcz229_0); (try clear hcz229_1); (try clear hcz229_2); (try clear hcz235_0); (try clear hcz235_1); (try clear hcz235_2); (try clear hcz242_0); (try clear hcz242_1); (try clear hcz242_2); (try clear hcz251_0); (try clear hcz251_1); (try clear hcz251_2); (try clear hcz260_0); (try clear hcz260_1); (try clear hcz260_2); (try clear hcz32_0); (try clear hcz32_1); (try clear hcz32_2); (try clear hcz34_0); (try clear hcz34_1); (try clear hcz34_2); (try clear hcz42_0); (try clear hcz42_1); (try clear hcz42_2); (try clear hcz47_0); (try clear hcz47_1); (try clear hcz47_2); (try clear hcz49_0); (try clear hcz49_1); (try clear hcz49_2); (try clear hcz55_0); (try clear hcz55_1)
                       (try clear hcz55_2); (try clear hcz57_0); (try clear hcz57_1); (try clear hcz57_2); (try clear hcz64_0); (try clear hcz64_1); (try clear hcz64_2); (try clear hcz66_0); (try clear hcz66_1); (try clear hcz66_2); (try clear hcz74_0); (try clear hcz74_1); (try clear hcz74_2); (try clear hcz84_0); (try clear hcz84_1); (try clear hcz84_2); (try clear hcz86_0); (try clear hcz86_1); (try clear hcz86_2); (try clear hcz87_0); (try clear hcz87_1); (try clear hcz87_2); (try clear hcz89_0); (try clear hcz89_1); (try clear hcz89_2); (try clear hcz90_0); (try clear hcz90_1); (try clear hcz90_2); (try clear hcz92_0); (try clear hcz92_1); (try clear hcz92_2); (try clear hcz93_0); (try clear hcz93_1); (try clear hcz93_2); (try clear hfz10_0); (try clear hfz10_1); (try clear hfz10_2); (try clear hfz110_0); (try clear hfz110_1); (try clear hfz110_2); (try clear hfz124_0); (try clear hfz124_1); (try clear hfz124_2); (try clear hfz12_0); (try clear hfz12_1); (try clear hfz12_2); (try clear hfz130_0); (try clear hfz130_1); (try clear hfz130_2); (try clear hfz137_0); (try clear hfz137_1); (try clear hfz137_2); (try clear hfz146_0); (try clear hfz146_1); (try clear hfz146_2); (try clear hfz159_0); (try clear hfz159_1); (try clear hfz159_2); (try clear hfz173_0); (try clear hfz173_1); (try clear hfz173_2); (try clear hfz179_0); (try clear hfz179_1); (try clear hfz179_2); (try clear hfz186_0); (try clear hfz186_1); (try clear hfz186_2); (try clear hfz195_0); (try clear hfz195_1); (try clear hfz195_2); (try clear hfz205_0); (try clear hfz205_1); (try clear hfz205_2); (try clear hfz215_0); (try clear hfz215_1); (try clear hfz215_2); (try clear hfz229_0); (try clear hfz229_1); (try clear hfz229_2); (try clear hfz235_0); (try clear hfz235_1); (try clear hfz235_2); (try clear hfz242_0); (try clear hfz242_1); (try clear hfz242_2); (try clear hfz251_0); (try clear hfz251_1); (try clear hfz251_2); (try clear hfz260_0); (try clear hfz260_1); (try clear hfz260_2); (try clear hfz32_0); (try clear hfz32_1); (try clear hfz32_2); (try clear hfz34_0); (try clear hfz34_1); (try clear hfz34_2); (try clear hfz42_0); (try clear hfz42_1); (try clear hfz42_2); (try clear hfz47_0); (try clear hfz47_1); (try clear hfz47_2); (try clear hfz49_0); (try clear hfz49_1); (try clear hfz49_2); (try clear hfz55_0); (try clear hfz55_1); (try clear hfz55_2); (try clear hfz57_0); (try clear hfz57_1); (try clear hfz57_2); (try clear hfz64_0); (try clear hfz64_1); (try clear hfz64_2); (try clear hfz66_0); (try clear hfz66_1); (try clear hfz66_2); (try clear hfz74_0); (try clear hfz74_1); (try clear hfz74_2); (try clear hfz84_0); (try clear hfz84_1); (try clear hfz84_2); (try clear hfz86_0); (try clear hfz86_1); (try clear hfz86_2); (try clear hfz87_0); (try clear hfz87_1); (try clear hfz87_2); (try clear hfz89_0); (try clear hfz89_1); (try clear hfz89_2); (try clear hfz90_0); (try clear hfz90_1); (try clear hfz90_2); (try clear hfz92_0); (try clear hfz92_1); (try clear hfz92_2); (try clear hfz93_0); (try clear hfz93_1); (try clear hfz93_2); (try clear hx334_0); (try clear hx335_0); (try clear hx336_0); (try clear p2); (try clear p3); (try clear p33); (try clear p334); (try clear p335); (try clear p336); (try clear p6); (try clear p64); (try clear q3); (try clear q33); (try clear q334); (try clear q335); (try clear q336); (try clear q36)
                       obtain ⟨kq, x26_251, rfl, HA, HJ251, HO_123, HO_303002, HO_310002, HO_317002, HO_324002, HO_331002, BK288, BK295, BK302, BK309, BK316, BK323, BK330, HB⟩ := hcut
                       cases kq with
                       | zero => exact absurd HA.out (by simp [barscanlaw43_PrintingMeans.j3])
                       | succ kj251 =>
                        have H := HA.out
                        clear HA
                        simp only [barscanlaw43_PrintingMeans.j3] at H
                        obtain ⟨ji262, hji262⟩ : ∃ j_ : Int, (mx 0 (wrap64 ((wrap64 (Int.tdiv x125_1 a0_0)) - (wrap64 (Int.tmod a2 8))))) = j_ := ⟨_, rfl⟩
                        replace H : (barscanlaw43_PrintingMeans.l1 kj251 (wrap64 (Int.tmod a2 8)) (rd t305 x125_1) (Int.tmod x125_1 a0_0) (wrap64 (Int.tdiv x125_1 a0_0)) 255 x26_251 ji262 t305 (t305.length : Int) x125_1 a0_0 a0_1 l0_2 a0_0 a0_1 y291) = some r := by first | (rw [hji262] at H; exact H) | (simp only [hji262] at H ⊢; exact H)
                        have hji262_ : (if 0 < (wrap64 ((wrap64 (Int.tdiv x125_1 a0_0)) - (wrap64 (Int.tmod a2 8)))) then (wrap64 ((wrap64 (Int.tdiv x125_1 a0_0)) - (wrap64 (Int.tmod a2 8)))) else 0) = ji262 := hji262
                        have H' := Aside0.mk H
                        clear H
                        go_wp2
                        go_loopg [25, 26, 27] kj251 (fun kq v25 v26 v27 w' => ∃ (x25_3 : Int) (x26_3 : Int) (x27_3 : Int), v25 = .int .u8 x25_3 ∧ v26 = .int .u8 x26_3 ∧ v27 = .int .i64 x27_3 ∧ Aside0 (barscanlaw43_PrintingMeans.l1 kq (wrap64 (Int.tmod a2 8)) (rd t305 x125_1) (Int.tmod x125_1 a0_0) (wrap64 (Int.tdiv x125_1 a0_0)) x25_3 x26_3 x27_3 t305 (t305.length : Int) x125_1 a0_0 a0_1 l0_2 a0_0 a0_1 y291 = some r) ∧ Aside0 (kq ≤ kj251) ∧ Aside0 (Kd.R (Kd.int .u8) 5 w' w.heap.size (fun k_ => some k_ ≠ ((.slice Ao48 t298.length co48) : Value).ownBlock ∧ some k_ ≠ ((.slice Ao65 t312.length co65) : Value).ownBlock ∧ some k_ ≠ ((.slice Ao85 t326.length co85) : Value).ownBlock) (.slice (some ad334) t305.length co56) t305) ∧ Aside0 (Kd.R (Kd.int .u8) 5 w' w.heap.size (fun k_ => some k_ ≠ ((.slice (some ad334) t305.length co56) : Value).ownBlock ∧ some k_ ≠ ((.slice (some ad334) t305.length co56) : Value).ownBlock ∧ some k_ ≠ ((.slice Ao65 t312.length co65) : Value).ownBlock ∧ some k_ ≠ ((.slice Ao85 t326.length co85) : Value).ownBlock) (.slice Ao48 t298.length co48) t298) ∧ Aside0 (Kd.R (Kd.int .u8) 5 w' w.heap.size (fun k_ => some k_ ≠ ((.slice Ao48 t298.length co48) : Value).ownBlock ∧ some k_ ≠ ((.slice Ao65 t312.length co65) : Value).ownBlock ∧ some k_ ≠ ((.slice Ao85 t326.length co85) : Value).ownBlock) (.slice (some ad334) t305.length co56) t305) ∧ Aside0 (Kd.R (Kd.int .u8) 5 w' w.heap.size (fun k_ => some k_ ≠ ((.slice (some ad334) t305.length co56) : Value).ownBlock ∧ some k_ ≠ ((.slice Ao48 t298.length co48) : Value).ownBlock ∧ some k_ ≠ ((.slice (some ad334) t305.length co56) : Value).ownBlock ∧ some k_ ≠ ((.slice Ao85 t326.length co85) : Value).ownBlock) (.slice Ao65 t312.length co65) t312) ∧ Aside0 (Kd.R Kd.bool 4 w' w.heap.size (fun _ => True) (.slice Ao75 t319.length co75) t319) ∧ Aside0 (Kd.R (Kd.int .u8) 5 w' w.heap.size (fun k_ => some k_ ≠ ((.slice (some ad334) t305.length co56) : Value).ownBlock ∧ some k_ ≠ ((.slice Ao48 t298.length co48) : Value).ownBlock ∧ some k_ ≠ ((.slice (some ad334) t305.length co56) : Value).ownBlock ∧ some k_ ≠ ((.slice Ao65 t312.length co65) : Value).ownBlock) (.slice Ao85 t326.length co85) t326) ∧ Aside0 (w'.heap[gb288]? = some (.cells #[.int .i64 a0_0, .int .i64 a0_1, (.slice A0_2 l0_2.length c0_2)] 33 (0, 0))) ∧ Aside0 (w'.heap[gb295]? = some (.cells #[.int .i64 a0_0, .int .i64 a0_1, (.slice A1 y291.length c1)] 24 (0, 0))) ∧ Aside0 (w'.heap[gb302]? = some (.cells #[.int .i64 t296, .int .i64 t297, (.slice Ao48 t298.length co48)] 24 (0, 0))) ∧ Aside0 (w'.heap[gb309]? = some (.cells #[.int .i64 t303, .int .i64 t304, (.slice (some ad334) t305.length co56)] 24 (0, 0))) ∧ Aside0 (w'.heap[gb316]? = some (.cells #[.int .i64 t310, .int .i64 t311, (.slice Ao65 t312.length co65)] 24 (0, 0))) ∧ Aside0 (w'.heap[gb323]? = some (.cells #[.int .i64 t317, .int .i64 t318, (.slice Ao75 t319.length co75)] 33 (0, 0))) ∧ Aside0 (w'.heap[gb330]? = some (.cells #[.int .i64 t324, .int .i64 t325, (.slice Ao85 t326.length co85)] 24 (0, 0))) ∧ Aside0 (Below w.heap.size w w'))
                        case atStart => exact ⟨(255), (x26_251), (ji262), (by first | rfl | (simp; done) | (simp [*]; done)), (by first | rfl | (simp; done) | (simp [*]; done)), (by first | rfl | (simp; done) | (simp only [← hji262] <;> (first | rfl | simp)) | (simp [*]; done)), H', ⟨Nat.le_refl _⟩, ⟨rkx HO_123⟩, ⟨rkx HO_303002⟩, ⟨rkx HO_310002⟩, ⟨rkx HO_317002⟩, ⟨rkx HO_324002⟩, ⟨rkx HO_331002⟩, ⟨bkx BK288⟩, ⟨bkx BK295⟩, ⟨bkx BK302⟩, ⟨bkx BK309⟩, ⟨bkx BK316⟩, ⟨bkx BK323⟩, ⟨bkx BK330⟩, ⟨hb7 HB GE288 GE295 GE302 GE309 GE316 GE323 GE330⟩⟩
                        case round =>
                         clear H'
                         (try clear c1); (try clear c2); (try clear p2); (try clear p3); (try clear q3); (try clear hx3); (try clear p6); (try clear c14); (try clear c15); (try clear c16); (try clear c17); (try clear c18); (try clear c19); (try clear c20); (try clear c21); (try clear c22); (try clear c23); (try clear c24); (try clear c25); (try clear c26); (try clear p33); (try clear q33); (try clear hx33); (try clear q36); (try clear p64); (try clear c145); (try clear c147); (try clear c147b0); (try clear c151); (try clear c151b0); (try clear c153); (try clear c154); (try clear c155); (try clear c156); (try clear c157); (try clear c158); (try clear c161); (try clear c161b0); (try clear c163); (try clear c163b0); (try clear c164); (try clear c164b0); (try clear c167); (try clear c168); (try clear c169); (try clear c170); (try clear c171); (try clear c172); (try clear c174); (try clear c175); (try clear c176); (try clear c177); (try clear c178); (try clear c180); (try clear c181); (try clear c182); (try clear c183); (try clear c184); (try clear c185); (try clear c187); (try clear c187b0); (try clear c188); (try clear c188b0); (try clear c189); (try clear c190); (try clear c191); (try clear c192); (try clear c193); (try clear c194); (try clear c196); (try clear c196b0); (try clear c199); (try clear c200); (try clear c201); (try clear c202); (try clear c203); (try clear c204); (try clear c207); (try clear c207b0); (try clear c209); (try clear c210); (try clear c211); (try clear c212); (try clear c213); (try clear c214); (try clear c217); (try clear c217b0); (try clear c219); (try clear c219b0); (try clear c220); (try clear c220b0); (try clear c223); (try clear c224); (try clear c225); (try clear c226); (try clear c227); (try clear c228); (try clear c230); (try clear c231); (try clear c232); (try clear c233); (try clear c234); (try clear c236); (try clear c237); (try clear c238); (try clear c239); (try clear c240); (try clear c241); (try clear c243); (try clear c243b0); (try clear c244); (try clear c244b0); (try clear c245); (try clear c246); (try clear c247); (try clear c248); (try clear c249); (try clear c250); (try clear c254); (try clear c255); (try clear c256); (try clear c257); (try clear c258); (try clear c259); (try clear c261); (try clear c261b0); (try clear hcz10_0); (try clear hcz10_1); (try clear hcz10_2); (try clear hcz110_0); (try clear hcz110_1); (try clear hcz110_2); (try clear hcz124_0); (try clear hcz124_1); (try clear hcz124_2); (try clear hcz12_0); (try clear hcz12_1); (try clear hcz12_2); (try clear hcz130_0); (try clear hcz130_1); (try clear hcz130_2); (try clear hcz137_0); (try clear hcz137_1); (try clear hcz137_2); (try clear hcz146_0); (try clear hcz146_1); (try clear hcz146_2); (try clear hcz159_0); (try clear hcz159_1); (try clear hcz159_2); (try clear hcz173_0); (try clear hcz173_1); (try clear hcz173_2); (try clear hcz179_0); (try clear hcz179_1); (try clear hcz179_2); (try clear hcz186_0); (try clear hcz186_1); (try clear hcz186_2); (try clear hcz195_0); (try clear hcz195_1); (try clear hcz195_2); (try clear hcz205_0); (try clear hcz205_1); (try clear hcz205_2); (try clear hcz215_0); (try clear hcz215_1); (try clear hcz215_2); (try clear hcz229_0); (try clear hcz229_1); (try clear hcz229_2); (try clear hcz235_0); (try clear hcz235_1); (try clear hcz235_2); (try clear hcz242_0); (try clear hcz242_1); (try clear hcz242_2); (try clear hcz251_0); (try clear hcz251_1); (try clear hcz251_2); (try clear hcz260_0); (try clear hcz260_1); (try clear hcz260_2); (try clear hcz32_0); (try clear hcz32_1); (try clear hcz32_2); (try clear hcz34_0); (try clear hcz34_1); (try clear hcz34_2); (try clear hcz42_0); (try clear hcz42_1); (try clear hcz42_2); (try clear hcz47_0); (try clear hcz47_1); (try clear hcz47_2); (try clear hcz49_0); (try clear hcz49_1); (try clear hcz49_2); (try clear hcz55_0); (try clear hcz55_1)
                         (try clear hcz55_2); (try clear hcz57_0); (try clear hcz57_1); (try clear hcz57_2); (try clear hcz64_0); (try clear hcz64_1); (try clear hcz64_2); (try clear hcz66_0); (try clear hcz66_1); (try clear hcz66_2); (try clear hcz74_0); (try clear hcz74_1); (try clear hcz74_2); (try clear hcz84_0); (try clear hcz84_1); (try clear hcz84_2); (try clear hcz86_0); (try clear hcz86_1); (try clear hcz86_2); (try clear hcz87_0); (try clear hcz87_1); (try clear hcz87_2); (try clear hcz89_0); (try clear hcz89_1); (try clear hcz89_2); (try clear hcz90_0); (try clear hcz90_1); (try clear hcz90_2); (try clear hcz92_0); (try clear hcz92_1); (try clear hcz92_2); (try clear hcz93_0); (try clear hcz93_1); (try clear hcz93_2); (try clear hfz10_0); (try clear hfz10_1); (try clear hfz10_2); (try clear hfz110_0); (try clear hfz110_1); (try clear hfz110_2); (try clear hfz124_0); (try clear hfz124_1); (try clear hfz124_2); (try clear hfz12_0); (try clear hfz12_1); (try clear hfz12_2); (try clear hfz130_0); (try clear hfz130_1); (try clear hfz130_2); (try clear hfz137_0); (try clear hfz137_1); (try clear hfz137_2); (try clear hfz146_0); (try clear hfz146_1); (try clear hfz146_2); (try clear hfz159_0); (try clear hfz159_1); (try clear hfz159_2); (try clear hfz173_0); (try clear hfz173_1); (try clear hfz173_2); (try clear hfz179_0); (try clear hfz179_1); (try clear hfz179_2); (try clear hfz186_0); (try clear hfz186_1); (try clear hfz186_2); (try clear hfz195_0); (try clear hfz195_1); (try clear hfz195_2); (try clear hfz205_0); (try clear hfz205_1); (try clear hfz205_2); (try clear hfz215_0); (try clear hfz215_1); (try clear hfz215_2); (try clear hfz229_0); (try clear hfz229_1); (try clear hfz229_2); (try clear hfz235_0); (try clear hfz235_1); (try clear hfz235_2); (try clear hfz242_0); (try clear hfz242_1); (try clear hfz242_2); (try clear hfz251_0); (try clear hfz251_1); (try clear hfz251_2); (try clear hfz260_0); (try clear hfz260_1); (try clear hfz260_2); (try clear hfz32_0); (try clear hfz32_1); (try clear hfz32_2); (try clear hfz34_0); (try clear hfz34_1); (try clear hfz34_2); (try clear hfz42_0); (try clear hfz42_1); (try clear hfz42_2); (try clear hfz47_0); (try clear hfz47_1); (try clear hfz47_2); (try clear hfz49_0); (try clear hfz49_1); (try clear hfz49_2); (try clear hfz55_0); (try clear hfz55_1); (try clear hfz55_2); (try clear hfz57_0); (try clear hfz57_1); (try clear hfz57_2); (try clear hfz64_0); (try clear hfz64_1); (try clear hfz64_2); (try clear hfz66_0); (try clear hfz66_1); (try clear hfz66_2); (try clear hfz74_0); (try clear hfz74_1); (try clear hfz74_2); (try clear hfz84_0); (try clear hfz84_1); (try clear hfz84_2); (try clear hfz86_0); (try clear hfz86_1); (try clear hfz86_2); (try clear hfz87_0); (try clear hfz87_1); (try clear hfz87_2); (try clear hfz89_0); (try clear hfz89_1); (try clear hfz89_2); (try clear hfz90_0); (try clear hfz90_1); (try clear hfz90_2); (try clear hfz92_0); (try clear hfz92_1); (try clear hfz92_2); (try clear hfz93_0); (try clear hfz93_1); (try clear hfz93_2); (try clear hx334_0); (try clear hx335_0); (try clear hx336_0); (try clear p2); (try clear p3); (try clear p33); (try clear p334); (try clear p335); (try clear p336); (try clear p6); (try clear p64); (try clear q3); (try clear q33); (try clear q334); (try clear q335); (try clear q336); (try clear q36)
                         obtain ⟨x25_3, x26_3, x27_3, rfl, rfl, rfl, HA, HK3, HO_123, HO_303002, HO_310002, HO_317002, HO_324002, HO_331002, BK288, BK295, BK302, BK309, BK316, BK323, BK330, HB⟩ := hrel
                         cases gk with
                         | zero => exact absurd HA.out (by simp [barscanlaw43_PrintingMeans.l1])
                         | succ k3 =>
                          have H := HA.out
                          clear HA
                          simp only [barscanlaw43_PrintingMeans.l1] at H
                          obtain ⟨ji263, hji263⟩ : ∃ j_ : Int, (mn (wrap64 (a0_1 - 1)) (wrap64 ((wrap64 (Int.tdiv x125_1 a0_0)) + (wrap64 (Int.tmod a2 8))))) = j_ := ⟨_, rfl⟩
                          replace H : (if x27_3 ≤ (ji263) then (barscanlaw43_PrintingMeans.l2 k3 (wrap64 (Int.tmod a2 8)) (rd t305 x125_1) (Int.tmod x125_1 a0_0) (wrap64 (Int.tdiv x125_1 a0_0)) x25_3 x26_3 x27_3 (mx 0 (wrap64 ((Int.tmod x125_1 a0_0) - (wrap64 (Int.tmod a2 8))))) t305 (t305.length : Int) x125_1 a0_0 a0_1 l0_2 a0_0 a0_1 y291) else (if (rd t305 x125_1) < x25_3 then (none) else (if (rd t305 x125_1) > x26_3 then (none) else (barscanlaw43_PrintingMeans.l0 k3 (wrap64 (Int.tmod a2 8)) t305 (t305.length : Int) (wrap64 (x125_1 + 1)) a0_0 a0_1 l0_2 a0_0 a0_1 y291)))) = some r := by first | (rw [hji263] at H; exact H) | (simp only [hji263] at H ⊢; exact H)
                          have hji263_ : (if (wrap64 ((wrap64 (Int.tdiv x125_1 a0_0)) + (wrap64 (Int.tmod a2 8)))) < (wrap64 (a0_1 - 1)) then (wrap64 ((wrap64 (Int.tdiv x125_1 a0_0)) + (wrap64 (Int.tmod a2 8)))) else (wrap64 (a0_1 - 1))) = ji263 := hji263
                          by_cases c264 : x27_3 ≤ (ji263)
                          ·rw [if_pos c264] at H
                           have c264b0 : decide (x27_3 ≤ (ji263)) = true := decide_eq_true c264
                           clear c264
                           obtain ⟨ji265, hji265⟩ : ∃ j_ : Int, (mx 0 (wrap64 ((Int.tmod x125_1 a0_0) - (wrap64 (Int.tmod a2 8))))) = j_ := ⟨_, rfl⟩
                           replace H : (barscanlaw43_PrintingMeans.l2 k3 (wrap64 (Int.tmod a2 8)) (rd t305 x125_1) (Int.tmod x125_1 a0_0) (wrap64 (Int.tdiv x125_1 a0_0)) x25_3 x26_3 x27_3 ji265 t305 (t305.length : Int) x125_1 a0_0 a0_1 l0_2 a0_0 a0_1 y291) = some r := by first | (rw [hji265] at H; exact H) | (simp only [hji265] at H ⊢; exact H)
                           have hji265_ : (if 0 < (wrap64 ((Int.tmod x125_1 a0_0) - (wrap64 (Int.tmod a2 8)))) then (wrap64 ((Int.tmod x125_1 a0_0) - (wrap64 (Int.tmod a2 8)))) else 0) = ji265 := hji265
                           have H' := Aside0.mk H
                           clear H
                           have hnb266 := NB288_295.out
                           have hnc266 := NB295_288.out
                           have hnb267 := NB288_302.out
                           have hnc267 := NB302_288.out
                           have hnb268 := NB288_309.out
                           have hnc268 := NB309_288.out
                           have hnb269 := NB288_316.out
                           have hnc269 := NB316_288.out
                           have hnb270 := NB288_323.out
                           have hnc270 := NB323_288.out
                           have hnb271 := NB288_330.out
                           have hnc271 := NB330_288.out
                           have hcz272_0 : wr.cell? ⟨gb288, 0, none⟩ = some (.int .i64 a0_0) := (blk_cell BK288.out 0).trans rfl
                           have hcz272_1 : wr.cell? ⟨gb288, 1, none⟩ = some (.int .i64 a0_1) := (blk_cell BK288.out 1).trans rfl
                           have hcz272_2 : wr.cell? ⟨gb288, 2, none⟩ = some (.slice A0_2 l0_2.length c0_2) := (blk_cell BK288.out 2).trans rfl
                           have hfz272_0 := blk_frozen BK288.out 0
                           have hfz272_1 := blk_frozen BK288.out 1
                           have hfz272_2 := blk_frozen BK288.out 2
                           go_wp2
                           go_loopg [25, 26, 28] k3 (fun kq v25 v26 v28 w' => ∃ (x25_4 : Int) (x26_4 : Int) (x28_4 : Int), v25 = .int .u8 x25_4 ∧ v26 = .int .u8 x26_4 ∧ v28 = .int .i64 x28_4 ∧ Aside0 (barscanlaw43_PrintingMeans.l2 kq (wrap64 (Int.tmod a2 8)) (rd t305 x125_1) (Int.tmod x125_1 a0_0) (wrap64 (Int.tdiv x125_1 a0_0)) x25_4 x26_4 x27_3 x28_4 t305 (t305.length : Int) x125_1 a0_0 a0_1 l0_2 a0_0 a0_1 y291 = some r) ∧ Aside0 (kq ≤ k3) ∧ Aside0 (Kd.R (Kd.int .u8) 5 w' w.heap.size (fun k_ => some k_ ≠ ((.slice Ao48 t298.length co48) : Value).ownBlock ∧ some k_ ≠ ((.slice Ao65 t312.length co65) : Value).ownBlock ∧ some k_ ≠ ((.slice Ao85 t326.length co85) : Value).ownBlock) (.slice (some ad334) t305.length co56) t305) ∧ Aside0 (Kd.R (Kd.int .u8) 5 w' w.heap.size (fun k_ => some k_ ≠ ((.slice (some ad334) t305.length co56) : Value).ownBlock ∧ some k_ ≠ ((.slice (some ad334) t305.length co56) : Value).ownBlock ∧ some k_ ≠ ((.slice Ao65 t312.length co65) : Value).ownBlock ∧ some k_ ≠ ((.slice Ao85 t326.length co85) : Value).ownBlock) (.slice Ao48 t298.length co48) t298) ∧ Aside0 (Kd.R (Kd.int .u8) 5 w' w.heap.size (fun k_ => some k_ ≠ ((.slice Ao48 t298.length co48) : Value).ownBlock ∧ some k_ ≠ ((.slice Ao65 t312.length co65) : Value).ownBlock ∧ some k_ ≠ ((.slice Ao85 t326.length co85) : Value).ownBlock) (.slice (some ad334) t305.length co56) t305) ∧ Aside0 (Kd.R (Kd.int .u8) 5 w' w.heap.size (fun k_ => some k_ ≠ ((.slice (some ad334) t305.length co56) : Value).ownBlock ∧ some k_ ≠ ((.slice Ao48 t298.length co48) : Value).ownBlock ∧ some k_ ≠ ((.slice (some ad334) t305.length co56) : Value).ownBlock ∧ some k_ ≠ ((.slice Ao85 t326.length co85) : Value).ownBlock) (.slice Ao65 t312.length co65) t312) ∧ Aside0 (Kd.R Kd.bool 4 w' w.heap.size (fun _ => True) (.slice Ao75 t319.length co75) t319) ∧ Aside0 (Kd.R (Kd.int .u8) 5 w' w.heap.size (fun k_ => some k_ ≠ ((.slice (some ad334) t305.length co56) : Value).ownBlock ∧ some k_ ≠ ((.slice Ao48 t298.length co48) : Value).ownBlock ∧ some k_ ≠ ((.slice (some ad334) t305.length co56) : Value).ownBlock ∧ some k_ ≠ ((.slice Ao65 t312.length co65) : Value).ownBlock) (.slice Ao85 t326.length co85) t326) ∧ Aside0 (w'.heap[gb288]? = some (.cells #[.int .i64 a0_0, .int .i64 a0_1, (.slice A0_2 l0_2.length c0_2)] 33 (0, 0))) ∧ Aside0 (w'.heap[gb295]? = some (.cells #[.int .i64 a0_0, .int .i64 a0_1, (.slice A1 y291.length c1)] 24 (0, 0))) ∧ Aside0 (w'.heap[gb302]? = some (.cells #[.int .i64 t296, .int .i64 t297, (.slice Ao48 t298.length co48)] 24 (0, 0))) ∧ Aside0 (w'.heap[gb309]? = some (.cells #[.int .i64 t303, .int .i64 t304, (.slice (some ad334) t305.length co56)] 24 (0, 0))) ∧ Aside0 (w'.heap[gb316]? = some (.cells #[.int .i64 t310, .int .i64 t311, (.slice Ao65 t312.length co65)] 24 (0, 0))) ∧ Aside0 (w'.heap[gb323]? = some (.cells #[.int .i64 t317, .int .i64 t318, (.slice Ao75 t319.length co75)] 33 (0, 0))) ∧ Aside0 (w'.heap[gb330]? = some (.cells #[.int .i64 t324, .int .i64 t325, (.slice Ao85 t326.length co85)] 24 (0, 0))) ∧ Aside0 (Below w.heap.size w w'))
                           case atStart => exact ⟨(x25_3), (x26_3), (ji265), (by first | rfl | (simp; done) | (simp [*]; done)), (by first | rfl | (simp; done) | (simp [*]; done)), (by first | rfl | (simp; done) | (simp only [← hji265] <;> (first | rfl | simp)) | (simp [*]; done)), H', ⟨Nat.le_refl _⟩, ⟨rkx HO_123⟩, ⟨rkx HO_303002⟩, ⟨rkx HO_310002⟩, ⟨rkx HO_317002⟩, ⟨rkx HO_324002⟩, ⟨rkx HO_331002⟩, ⟨bkx BK288⟩, ⟨bkx BK295⟩, ⟨bkx BK302⟩, ⟨bkx BK309⟩, ⟨bkx BK316⟩, ⟨bkx BK323⟩, ⟨bkx BK330⟩, ⟨hb7 HB GE288 GE295 GE302 GE309 GE316 GE323 GE330⟩⟩
                           case round =>
                            clear H'
                            (try clear c1); (try clear c2); (try clear p2); (try clear p3); (try clear q3); (try clear hx3); (try clear p6); (try clear c14); (try clear c15); (try clear c16); (try clear c17); (try clear c18); (try clear c19); (try clear c20); (try clear c21); (try clear c22); (try clear c23); (try clear c24); (try clear c25); (try clear c26); (try clear c27); (try clear p33); (try clear q33); (try clear hx33); (try clear q36); (try clear p64); (try clear c145); (try clear c147); (try clear c147b0); (try clear c151); (try clear c151b0); (try clear c153); (try clear c154); (try clear c155); (try clear c156); (try clear c157); (try clear c158); (try clear c161); (try clear c161b0); (try clear c163); (try clear c163b0); (try clear c164); (try clear c164b0); (try clear c167); (try clear c168); (try clear c169); (try clear c170); (try clear c171); (try clear c172); (try clear c174); (try clear c175); (try clear c176); (try clear c177); (try clear c178); (try clear c180); (try clear c181); (try clear c182); (try clear c183); (try clear c184); (try clear c185); (try clear c187); (try clear c187b0); (try clear c188); (try clear c188b0); (try clear c189); (try clear c190); (try clear c191); (try clear c192); (try clear c193); (try clear c194); (try clear c196); (try clear c196b0); (try clear c199); (try clear c200); (try clear c201); (try clear c202); (try clear c203); (try clear c204); (try clear c207); (try clear c207b0); (try clear c209); (try clear c210); (try clear c211); (try clear c212); (try clear c213); (try clear c214); (try clear c217); (try clear c217b0); (try clear c219); (try clear c219b0); (try clear c220); (try clear c220b0); (try clear c223); (try clear c224); (try clear c225); (try clear c226); (try clear c227); (try clear c228); (try clear c230); (try clear c231); (try clear c232); (try clear c233); (try clear c234); (try clear c236); (try clear c237); (try clear c238); (try clear c239); (try clear c240); (try clear c241); (try clear c243); (try clear c243b0); (try clear c244); (try clear c244b0); (try clear c245); (try clear c246); (try clear c247); (try clear c248); (try clear c249); (try clear c250); (try clear c254); (try clear c255); (try clear c256); (try clear c257); (try clear c258); (try clear c259); (try clear c261); (try clear c261b0); (try clear c264); (try clear c264b0); (try clear c266); (try clear c267); (try clear c268); (try clear c269); (try clear c270); (try clear c271); (try clear hcz10_0); (try clear hcz10_1); (try clear hcz10_2); (try clear hcz110_0); (try clear hcz110_1); (try clear hcz110_2); (try clear hcz124_0); (try clear hcz124_1); (try clear hcz124_2); (try clear hcz12_0); (try clear hcz12_1); (try clear hcz12_2); (try clear hcz130_0); (try clear hcz130_1); (try clear hcz130_2); (try clear hcz137_0); (try clear hcz137_1); (try clear hcz137_2); (try clear hcz146_0); (try clear hcz146_1); (try clear hcz146_2); (try clear hcz159_0); (try clear hcz159_1); (try clear hcz159_2); (try clear hcz173_0); (try clear hcz173_1); (try clear hcz173_2); (try clear hcz179_0); (try clear hcz179_1); (try clear hcz179_2); (try clear hcz186_0); (try clear hcz186_1); (try clear hcz186_2); (try clear hcz195_0); (try clear hcz195_1); (try clear hcz195_2); (try clear hcz205_0); (try clear hcz205_1); (try clear hcz205_2); (try clear hcz215_0); (try clear hcz215_1); (try clear hcz215_2); (try clear hcz229_0); (try clear hcz229_1); (try clear hcz229_2); (try clear hcz235_0); (try clear hcz235_1); (try clear hcz235_2); (try clear hcz242_0); (try clear hcz242_1); (try clear hcz242_2); (try clear hcz251_0); (try clear hcz251_1); (try clear hcz251_2); (try clear hcz260_0); (try clear hcz260_1); (try clear hcz260_2); (try clear hcz272_0); (try clear hcz272_1); (try clear hcz272_2); (try clear hcz32_0); (try clear hcz32_1); (try clear hcz32_2); (try clear hcz34_0); (try clear hcz34_1)
                            (try clear hcz34_2); (try clear hcz42_0); (try clear hcz42_1); (try clear hcz42_2); (try clear hcz47_0); (try clear hcz47_1); (try clear hcz47_2); (try clear hcz49_0); (try clear hcz49_1); (try clear hcz49_2); (try clear hcz55_0); (try clear hcz55_1); (try clear hcz55_2); (try clear hcz57_0); (try clear hcz57_1); (try clear hcz57_2); (try clear hcz64_0); (try clear hcz64_1); (try clear hcz64_2); (try clear hcz66_0); (try clear hcz66_1); (try clear hcz66_2); (try clear hcz74_0); (try clear hcz74_1); (try clear hcz74_2); (try clear hcz84_0); (try clear hcz84_1); (try clear hcz84_2); (try clear hcz86_0); (try clear hcz86_1); (try clear hcz86_2); (try clear hcz87_0); (try clear hcz87_1); (try clear hcz87_2); (try clear hcz89_0); (try clear hcz89_1); (try clear hcz89_2); (try clear hcz90_0); (try clear hcz90_1); (try clear hcz90_2); (try clear hcz92_0); (try clear hcz92_1); (try clear hcz92_2); (try clear hcz93_0); (try clear hcz93_1); (try clear hcz93_2); (try clear hfz10_0); (try clear hfz10_1); (try clear hfz10_2); (try clear hfz110_0); (try clear hfz110_1); (try clear hfz110_2); (try clear hfz124_0); (try clear hfz124_1); (try clear hfz124_2); (try clear hfz12_0); (try clear hfz12_1); (try clear hfz12_2); (try clear hfz130_0); (try clear hfz130_1); (try clear hfz130_2); (try clear hfz137_0); (try clear hfz137_1); (try clear hfz137_2); (try clear hfz146_0); (try clear hfz146_1); (try clear hfz146_2); (try clear hfz159_0); (try clear hfz159_1); (try clear hfz159_2); (try clear hfz173_0); (try clear hfz173_1); (try clear hfz173_2); (try clear hfz179_0); (try clear hfz179_1); (try clear hfz179_2); (try clear hfz186_0); (try clear hfz186_1); (try clear hfz186_2); (try clear hfz195_0); (try clear hfz195_1); (try clear hfz195_2); (try clear hfz205_0); (try clear hfz205_1); (try clear hfz205_2); (try clear hfz215_0); (try clear hfz215_1); (try clear hfz215_2); (try clear hfz229_0); (try clear hfz229_1); (try clear hfz229_2); (try clear hfz235_0); (try clear hfz235_1); (try clear hfz235_2); (try clear hfz242_0); (try clear hfz242_1); (try clear hfz242_2); (try clear hfz251_0); (try clear hfz251_1); (try clear hfz251_2); (try clear hfz260_0); (try clear hfz260_1); (try clear hfz260_2); (try clear hfz272_0); (try clear hfz272_1); (try clear hfz272_2); (try clear hfz32_0); (try clear hfz32_1); (try clear hfz32_2); (try clear hfz34_0); (try clear hfz34_1); (try clear hfz34_2); (try clear hfz42_0); (try clear hfz42_1); (try clear hfz42_2); (try clear hfz47_0); (try clear hfz47_1); (try clear hfz47_2); (try clear hfz49_0); (try clear hfz49_1); (try clear hfz49_2); (try clear hfz55_0); (try clear hfz55_1); (try clear hfz55_2); (try clear hfz57_0); (try clear hfz57_1); (try clear hfz57_2); (try clear hfz64_0); (try clear hfz64_1); (try clear hfz64_2); (try clear hfz66_0); (try clear hfz66_1); (try clear hfz66_2); (try clear hfz74_0); (try clear hfz74_1); (try clear hfz74_2); (try clear hfz84_0); (try clear hfz84_1); (try clear hfz84_2); (try clear hfz86_0); (try clear hfz86_1); (try clear hfz86_2); (try clear hfz87_0); (try clear hfz87_1); (try clear hfz87_2); (try clear hfz89_0); (try clear hfz89_1); (try clear hfz89_2); (try clear hfz90_0); (try clear hfz90_1); (try clear hfz90_2); (try clear hfz92_0); (try clear hfz92_1); (try clear hfz92_2); (try clear hfz93_0); (try clear hfz93_1); (try clear hfz93_2); (try clear hx334_0); (try clear hx335_0); (try clear hx336_0); (try clear p2); (try clear p3); (try clear p33); (try clear p334); (try clear p335); (try clear p336); (try clear p6); (try clear p64); (try clear q3); (try clear q33); (try clear q334); (try clear q335); (try clear q336); (try clear q36)
                            obtain ⟨x25_4, x26_4, x28_4, rfl, rfl, rfl, HA, HK4, HO_123, HO_303002, HO_310002, HO_317002, HO_324002, HO_331002, BK288, BK295, BK302, BK309, BK316, BK323, BK330, HB⟩ := hrel
                            cases gk with
                            | zero => exact absurd HA.out (by simp [barscanlaw43_PrintingMeans.l2])
                            | succ k4 =>
                             have H := HA.out
                             clear HA
                             simp only [barscanlaw43_PrintingMeans.l2] at H
                             obtain ⟨ji273, hji273⟩ : ∃ j_ : Int, (mn (wrap64 (a0_0 - 1)) (wrap64 ((Int.tmod x125_1 a0_0) + (wrap64 (Int.tmod a2 8))))) = j_ := ⟨_, rfl⟩
                             replace H : (if x28_4 ≤ (ji273) then (if 0 ≤ (wrap64 ((wrap64 (x27_3 * a0_0)) + x28_4)) then (if (wrap64 ((wrap64 (x27_3 * a0_0)) + x28_4)) < (y291.length : Int) then (barscanlaw43_PrintingMeans.l2 k4 (wrap64 (Int.tmod a2 8)) (rd t305 x125_1) (Int.tmod x125_1 a0_0) (wrap64 (Int.tdiv x125_1 a0_0)) (mn x25_4 (rd y291 (wrap64 ((wrap64 (x27_3 * a0_0)) + x28_4)))) (mx x26_4 (rd y291 (wrap64 ((wrap64 (x27_3 * a0_0)) + x28_4)))) x27_3 (wrap64 (x28_4 + 1)) t305 (t305.length : Int) x125_1 a0_0 a0_1 l0_2 a0_0 a0_1 y291) else (none)) else (none)) else (barscanlaw43_PrintingMeans.l1 k4 (wrap64 (Int.tmod a2 8)) (rd t305 x125_1) (Int.tmod x125_1 a0_0) (wrap64 (Int.tdiv x125_1 a0_0)) x25_4 x26_4 (wrap64 (x27_3 + 1)) t305 (t305.length : Int) x125_1 a0_0 a0_1 l0_2 a0_0 a0_1 y291)) = some r := by first | (rw [hji273] at H; exact H) | (simp only [hji273] at H ⊢; exact H)
                             have hji273_ : (if (wrap64 ((Int.tmod x125_1 a0_0) + (wrap64 (Int.tmod a2 8)))) < (wrap64 (a0_0 - 1)) then (wrap64 ((Int.tmod x125_1 a0_0) + (wrap64 (Int.tmod a2 8)))) else (wrap64 (a0_0 - 1))) = ji273 := hji273
                             by_cases c274 : x28_4 ≤ (ji273)
                             ·rw [if_pos c274] at H
                              have c274b0 : decide (x28_4 ≤ (ji273)) = true := decide_eq_true c274
                              clear c274
                              obtain ⟨ji275, hji275⟩ : ∃ j_ : Int, (wrap64 ((wrap64 (x27_3 * a0_0)) + x28_4)) = j_ := ⟨_, rfl⟩
                              replace H : (if 0 ≤ (ji275) then (if (ji275) < (y291.length : Int) then (barscanlaw43_PrintingMeans.l2 k4 (wrap64 (Int.tmod a2 8)) (rd t305 x125_1) (Int.tmod x125_1 a0_0) (wrap64 (Int.tdiv x125_1 a0_0)) (mn x25_4 (rd y291 (ji275))) (mx x26_4 (rd y291 (ji275))) x27_3 (wrap64 (x28_4 + 1)) t305 (t305.length : Int) x125_1 a0_0 a0_1 l0_2 a0_0 a0_1 y291) else (none)) else (none)) = some r := by first | (rw [hji275] at H; exact H) | (simp only [hji275] at H ⊢; exact H)
                              have hji275w : (IntKind.i64.wrap ((wrap64 (x27_3 * a0_0)) + x28_4)) = ji275 := (i64_w _).trans hji275
                              by_cases c276 : 0 ≤ (ji275)
                              ·rw [if_pos c276] at H
                               have c276b0 : decide (0 ≤ (ji275)) = true := decide_eq_true c276
                               clear c276
                               by_cases c277 : (ji275) < (y291.length : Int)
                               ·rw [if_pos c277] at H
                                have c277b0 : decide ((ji275) < (y291.length : Int)) = true := decide_eq_true c277
                                clear c277
                                obtain ⟨ji278, hji278⟩ : ∃ j_ : Int, (mn x25_4 (rd y291 (ji275))) = j_ := ⟨_, rfl⟩
                                replace H : (barscanlaw43_PrintingMeans.l2 k4 (wrap64 (Int.tmod a2 8)) (rd t305 x125_1) (Int.tmod x125_1 a0_0) (wrap64 (Int.tdiv x125_1 a0_0)) ji278 (mx x26_4 (rd y291 (ji275))) x27_3 (wrap64 (x28_4 + 1)) t305 (t305.length : Int) x125_1 a0_0 a0_1 l0_2 a0_0 a0_1 y291) = some r := by first | (rw [hji278] at H; exact H) | (simp only [hji278] at H ⊢; exact H)
                                have hji278_ : (if (rd y291 (ji275)) < x25_4 then (rd y291 (ji275)) else x25_4) = ji278 := hji278
                                obtain ⟨ji279, hji279⟩ : ∃ j_ : Int, (mx x26_4 (rd y291 (ji275))) = j_ := ⟨_, rfl⟩
                                replace H : (barscanlaw43_PrintingMeans.l2 k4 (wrap64 (Int.tmod a2 8)) (rd t305 x125_1) (Int.tmod x125_1 a0_0) (wrap64 (Int.tdiv x125_1 a0_0)) ji278 ji279 x27_3 (wrap64 (x28_4 + 1)) t305 (t305.length : Int) x125_1 a0_0 a0_1 l0_2 a0_0 a0_1 y291) = some r := by first | (rw [hji279] at H; exact H) | (simp only [hji279] at H ⊢; exact H)
                                have hji279_ : (if x26_4 < (rd y291 (ji275)) then (rd y291 (ji275)) else x26_4) = ji279 := hji279
                                have H' := Aside0.mk H
                                clear H
                                have hnb280 := NB288_295.out
                                have hnc280 := NB295_288.out
                                have hnb281 := NB288_302.out
                                have hnc281 := NB302_288.out
                                have hnb282 := NB288_309.out
                                have hnc282 := NB309_288.out
                                have hnb283 := NB288_316.out
                                have hnc283 := NB316_288.out
                                have hnb284 := NB288_323.out
                                have hnc284 := NB323_288.out
                                have hnb285 := NB288_330.out
                                have hnc285 := NB330_288.out
                                have hcz286_0 : wr.cell? ⟨gb288, 0, none⟩ = some (.int .i64 a0_0) := (blk_cell BK288.out 0).trans rfl
                                have hcz286_1 : wr.cell? ⟨gb288, 1, none⟩ = some (.int .i64 a0_1) := (blk_cell BK288.out 1).trans rfl
                                have hcz286_2 : wr.cell? ⟨gb288, 2, none⟩ = some (.slice A0_2 l0_2.length c0_2) := (blk_cell BK288.out 2).trans rfl
                                have hfz286_0 := blk_frozen BK288.out 0
                                have hfz286_1 := blk_frozen BK288.out 1
                                have hfz286_2 := blk_frozen BK288.out 2
                                have hnb287 := NB295_302.out
                                have hnc287 := NB302_295.out
                                have hnb288 := NB295_309.out
                                have hnc288 := NB309_295.out
                                have hnb289 := NB295_316.out
                                have hnc289 := NB316_295.out
                                have hnb290 := NB295_323.out
                                have hnc290 := NB323_295.out
                                have hnb291 := NB295_330.out
                                have hnc291 := NB330_295.out
                                have hcz292_0 : wr.cell? ⟨gb295, 0, none⟩ = some (.int .i64 a0_0) := (blk_cell BK295.out 0).trans rfl
                                have hcz292_1 : wr.cell? ⟨gb295, 1, none⟩ = some (.int .i64 a0_1) := (blk_cell BK295.out 1).trans rfl
                                have hcz292_2 : wr.cell? ⟨gb295, 2, none⟩ = some (.slice A1 y291.length c1) := (blk_cell BK295.out 2).trans rfl
                                have hfz292_0 := blk_frozen BK295.out 0
                                have hfz292_1 := blk_frozen BK295.out 1
                                have hfz292_2 := blk_frozen BK295.out 2
                                have p335 : 0 ≤ ((ji275) : Int) := of_decide_eq_true (by first | (with_reducible assumption) | assumption)
                                have q335 : (ji275) < (y291.length : Int) := of_decide_eq_true (by first | (with_reducible assumption) | assumption)
                                obtain ⟨ad335, e335, hx335_0⟩ := Kd.at_int HR294.out (ji275) p335 q335
                                cases e335
                                replace hx335_0 := (HB.out.cell (World.block_lt_of_cell? w _ hx335_0)).trans hx335_0
                                replace p335 := eq_true p335
                                replace q335 := eq_true q335
                                have p336 : 0 ≤ ((ji275) : Int) := of_decide_eq_true (by first | (with_reducible assumption) | assumption)
                                have q336 : (ji275) < (y291.length : Int) := of_decide_eq_true (by first | (with_reducible assumption) | assumption)
                                obtain ⟨ad336, e336, hx336_0⟩ := Kd.at_int HR294.out (ji275) p336 q336
                                obtain rfl : ad335 = ad336 := (by injection e336)
                                replace hx336_0 := (HB.out.cell (World.block_lt_of_cell? w _ hx336_0)).trans hx336_0
                                replace p336 := eq_true p336
                                replace q336 := eq_true q336
                                go_wp2
                                go_roundg k4
                                case measure => have := HK1.out; have := HJ251.out; have := HK3.out; have := HK4.out; omega
                                case rel => exact ⟨(ji278), (ji279), (wrap64 (x28_4 + 1)), (by first | rfl | (simp; done) | (simp only [← hji278] <;> (first | rfl | simp)) | (simp [*]; done)), (by first | rfl | (simp; done) | (simp only [← hji279] <;> (first | rfl | simp)) | (simp [*]; done)), (by first | rfl | (simp; done) | (simp [*]; done)), H', ⟨by have := HK1.out; have := HJ251.out; have := HK3.out; have := HK4.out; omega⟩, ⟨rkx HO_123⟩, ⟨rkx HO_303002⟩, ⟨rkx HO_310002⟩, ⟨rkx HO_317002⟩, ⟨rkx HO_324002⟩, ⟨rkx HO_331002⟩, ⟨bkx BK288⟩, ⟨bkx BK295⟩, ⟨bkx BK302⟩, ⟨bkx BK309⟩, ⟨bkx BK316⟩, ⟨bkx BK323⟩, ⟨bkx BK330⟩, ⟨hb7 HB GE288 GE295 GE302 GE309 GE316 GE323 GE330⟩⟩
                               ·rw [if_neg c277] at H
                                exact absurd H (by simp)
                              ·rw [if_neg c276] at H
                               exact absurd H (by simp)
                             ·rw [if_neg c274] at H
                              have c274b0 : decide (x28_4 ≤ (ji273)) = false := decide_eq_false c274
                              clear c274
                              have H' := Aside0.mk H
                              clear H
                              have hnb293 := NB288_295.out
                              have hnc293 := NB295_288.out
                              have hnb294 := NB288_302.out
                              have hnc294 := NB302_288.out
                              have hnb295 := NB288_309.out
                              have hnc295 := NB309_288.out
                              have hnb296 := NB288_316.out
                              have hnc296 := NB316_288.out
                              have hnb297 := NB288_323.out
                              have hnc297 := NB323_288.out
                              have hnb298 := NB288_330.out
                              have hnc298 := NB330_288.out
                              have hcz299_0 : wr.cell? ⟨gb288, 0, none⟩ = some (.int .i64 a0_0) := (blk_cell BK288.out 0).trans rfl
                              have hcz299_1 : wr.cell? ⟨gb288, 1, none⟩ = some (.int .i64 a0_1) := (blk_cell BK288.out 1).trans rfl
                              have hcz299_2 : wr.cell? ⟨gb288, 2, none⟩ = some (.slice A0_2 l0_2.length c0_2) := (blk_cell BK288.out 2).trans rfl
                              have hfz299_0 := blk_frozen BK288.out 0
                              have hfz299_1 := blk_frozen BK288.out 1
                              have hfz299_2 := blk_frozen BK288.out 2
                              go_wp2
                              go_roundg k4
                              case measure => have := HK1.out; have := HJ251.out; have := HK3.out; have := HK4.out; omega
                              case rel => exact ⟨(x25_4), (x26_4), (wrap64 (x27_3 + 1)), (by first | rfl | (simp; done) | (simp [*]; done)), (by first | rfl | (simp; done) | (simp [*]; done)), (by first | rfl | (simp; done) | (simp [*]; done)), H', ⟨by have := HK1.out; have := HJ251.out; have := HK3.out; have := HK4.out; omega⟩, ⟨rkx HO_123⟩, ⟨rkx HO_303002⟩, ⟨rkx HO_310002⟩, ⟨rkx HO_317002⟩, ⟨rkx HO_324002⟩, ⟨rkx HO_331002⟩, ⟨bkx BK288⟩, ⟨bkx BK295⟩, ⟨bkx BK302⟩, ⟨bkx BK309⟩, ⟨bkx BK316⟩, ⟨bkx BK323⟩, ⟨bkx BK330⟩, ⟨hb7 HB GE288 GE295 GE302 GE309 GE316 GE323 GE330⟩⟩
                          ·rw [if_neg c264] at H
                           have c264b0 : decide (x27_3 ≤ (ji263)) = false := decide_eq_false c264
                           clear c264
                           by_cases c300 : (rd t305 x125_1) < x25_3
                           ·rw [if_pos c300] at H
                            exact absurd H (by simp)
                           ·rw [if_neg c300] at H
                            have c300b0 : decide ((rd t305 x125_1) < x25_3) = false := decide_eq_false c300
                            clear c300
                            by_cases c301 : (rd t305 x125_1) > x26_3
                            ·rw [if_pos c301] at H
                             exact absurd H (by simp)
                            ·rw [if_neg c301] at H
                             have c301b0 : decide (x26_3 < (rd t305 x125_1)) = false := decide_eq_false c301
                             clear c301
                             have H' := Aside0.mk H
                             clear H
                             have hnb302 := NB288_295.out
                             have hnc302 := NB295_288.out
                             have hnb303 := NB288_302.out
                             have hnc303 := NB302_288.out
                             have hnb304 := NB288_309.out
                             have hnc304 := NB309_288.out
                             have hnb305 := NB288_316.out
                             have hnc305 := NB316_288.out
                             have hnb306 := NB288_323.out
                             have hnc306 := NB323_288.out
                             have hnb307 := NB288_330.out
                             have hnc307 := NB330_288.out
                             have hcz308_0 : wr.cell? ⟨gb288, 0, none⟩ = some (.int .i64 a0_0) := (blk_cell BK288.out 0).trans rfl
                             have hcz308_1 : wr.cell? ⟨gb288, 1, none⟩ = some (.int .i64 a0_1) := (blk_cell BK288.out 1).trans rfl
                             have hcz308_2 : wr.cell? ⟨gb288, 2, none⟩ = some (.slice A0_2 l0_2.length c0_2) := (blk_cell BK288.out 2).trans rfl
                             have hfz308_0 := blk_frozen BK288.out 0
                             have hfz308_1 := blk_frozen BK288.out 1
                             have hfz308_2 := blk_frozen BK288.out 2
                             go_wp2
                             go_roundg k3
                             case measure => have := HK1.out; have := HJ251.out; have := HK3.out; omega
                             case rel => exact ⟨(wrap64 (x125_1 + 1)), (by first | rfl | (simp; done) | (simp [*]; done)), H', ⟨by have := HK1.out; have := HJ251.out; have := HK3.out; omega⟩, ⟨rkx HO_123⟩, ⟨rkx HO_303002⟩, ⟨rkx HO_310002⟩, ⟨rkx HO_317002⟩, ⟨rkx HO_324002⟩, ⟨rkx HO_331002⟩, ⟨bkx BK288⟩, ⟨bkx BK295⟩, ⟨bkx BK302⟩, ⟨bkx BK309⟩, ⟨bkx BK316⟩, ⟨bkx BK323⟩, ⟨bkx BK330⟩, ⟨hb7 HB GE288 GE295 GE302 GE309 GE316 GE323 GE330⟩⟩
                 ·rw [if_neg c96] at H
                  exact absurd H (by simp)
                ·rw [if_neg c95] at H
                 exact absurd H (by simp)
               ·rw [if_neg c94] at H
                have c94b0 : decide (x125_1 < (t305.length : Int)) = false := decide_eq_false c94
                clear c94
                replace H := Option.bind_eq_some_iff.mp H
                obtain ⟨t333, A3090, H⟩ := H
                replace H : (some t333) = some r := H
                have A309 := Aside0.mk A3090
                clear A3090
                obtain rfl := Option.some.inj H
                go_wp2_with (first | ((with_reducible refine gate_callee (f := 10) rfl ?_); refine goesL_ (some 225) rfl rfl Try.func10 (by kernel_rfl) rfl #[] rfl mapx ?_; (with_reducible refine (barscanlaw43_examples.calls k1  t333 _ A309.out).mono ?_); rintro e w310 ⟨rfl, hb⟩; refine ⟨_, rfl, ?_⟩; have n0_ := Aside0.mk (Kd.R_below (rkx HO_123) hb); have n1_ := Aside0.mk (Kd.R_below (rkx HO_303002) hb); have n2_ := Aside0.mk (Kd.R_below (rkx HO_310002) hb); have n3_ := Aside0.mk (Kd.R_below (rkx HO_317002) hb); have n4_ := Aside0.mk (Kd.R_below (rkx HO_324002) hb); have n5_ := Aside0.mk (Kd.R_below (rkx HO_331002) hb); have n6_ := Aside0.mk (blk_below (bkx BK288) hb); have n7_ := Aside0.mk (blk_below (bkx BK295) hb); have n8_ := Aside0.mk (blk_below (bkx BK302) hb); have n9_ := Aside0.mk (blk_below (bkx BK309) hb); have n10_ := Aside0.mk (blk_below (bkx BK316) hb); have n11_ := Aside0.mk (blk_below (bkx BK323) hb); have n12_ := Aside0.mk (blk_below (bkx BK330) hb); have n13_ := Aside0.mk (below_step (hb7 HB GE288 GE295 GE302 GE309 GE316 GE323 GE330) hb); clear HO_123; clear HO_303002; clear HO_310002; clear HO_317002; clear HO_324002; clear HO_331002; clear BK288; clear BK295; clear BK302; clear BK309; clear BK316; clear BK323; clear BK330; clear HB; have HO_123 := n0_; have HO_303002 := n1_; have HO_310002 := n2_; have HO_317002 := n3_; have HO_324002 := n4_; have HO_331002 := n5_; have BK288 := n6_; have BK295 := n7_; have BK302 := n8_; have BK309 := n9_; have BK316 := n10_; have BK323 := n11_; have BK330 := n12_; have HB := n13_; clear n0_ n1_ n2_ n3_ n4_ n5_ n6_ n7_ n8_ n9_ n10_ n11_ n12_ n13_; (try clear hb); (try clear hb2); (try clear hk); (try clear hi)))
                go_ret
                exact ⟨by first | rfl | (simp [errW_none, errW_some] <;> rfl) | (simp [*, errW_none, errW_some] <;> rfl), by repeat (first | (with_reducible first | exact HB.out | apply below_alloc | apply pw_below_drewN | apply below_drew1 | refine below_set ?_ GE288.out | refine below_set ?_ GE295.out | refine below_set ?_ GE302.out | refine below_set ?_ GE309.out | refine below_set ?_ GE316.out | refine below_set ?_ GE323.out | refine below_set ?_ GE330.out) | exact HB.out)⟩
            ·rw [if_neg c30] at H
             exact absurd H (by simp)
           ·replace c29 := Bool.eq_false_iff.mpr c29
            subst c29
            have H1 : (none) = some r := by rw [if_neg (show ¬ (false = true) by decide)] at H; exact H
            clear H
            have H := H1
            clear H1
            exact absurd H (by simp)
          ·replace c27 := Bool.eq_false_iff.mpr c27
           subst c27
           have H1 : (none) = some r := by rw [if_neg (show ¬ (false = true) by decide)] at H; exact H
           clear H
           have H := H1
           clear H1
           exact absurd H (by simp)
         ·rw [if_neg c25] at H
          exact absurd H (by simp)
        ·rw [if_neg c24] at H
         exact absurd H (by simp)
       ·rw [if_neg c23] at H
        exact absurd H (by simp)
      ·rw [if_neg c22] at H
       exact absurd H (by simp)
     ·rw [if_neg c21] at H
      exact absurd H (by simp)
    ·rw [if_neg c15] at H
     exact absurd H (by simp)
   ·rw [if_neg c14] at H
    exact absurd H (by simp)
 ·replace c6 := Bool.eq_false_iff.mpr c6
  subst c6
  have H1 : ((barscanlaw43_examples.f k).bind fun t337 => (some t337)) = some r := by rw [if_neg (show ¬ (false = true) by decide)] at H; exact H
  clear H
  have H := H1
  clear H1
  replace H := Option.bind_eq_some_iff.mp H
  obtain ⟨t337, A3110, H⟩ := H
  replace H : (some t337) = some r := H
  have A311 := Aside0.mk A3110
  clear A3110
  obtain rfl := Option.some.inj H
  go_enter Try.func4, Try.ntmps4
  go_wp2_with (first | ((with_reducible refine gate_dst (N := 4) rfl ?_); (try (refine gate_guard (by rfl) ?_; dsimp only)); refine box_event ?hg (N := 4) ?hd (cs := #[.int .i64 a0_0, .int .i64 a0_1, .slice A0_2 l0_2.length c0_2]) (t := 33) ?hr ?_; (case hd => rfl); (case hg => rfl); (case hr => first | (go_simp; done) | (go_simp; rfl)); intro gb288 hg w312 hbox hb; have n0_ := Aside0.mk (below_step (hb0 HB) hb); have n1_ := Aside0.mk (hbox); have n2_ := Aside0.mk ((by rw [hg]; exact (below_size (hb0 HB)) : w.heap.size ≤ gb288)); have n3_ := Aside0.mk ((by rw [hg]; exact (below_size (hb0 HB)) : w.heap.size ≤ gb288)); clear HB; have HB := n0_; have BK288 := n1_; have GW288 := n2_; have GE288 := n3_; clear n0_ n1_ n2_ n3_; clear hb hbox hg; have hcz313_0 : w312.cell? ⟨gb288, 0, none⟩ = some (.int .i64 a0_0) := (blk_cell BK288.out 0).trans rfl; have hcz313_1 : w312.cell? ⟨gb288, 1, none⟩ = some (.int .i64 a0_1) := (blk_cell BK288.out 1).trans rfl; have hcz313_2 : w312.cell? ⟨gb288, 2, none⟩ = some (.slice A0_2 l0_2.length c0_2) := (blk_cell BK288.out 2).trans rfl; have hfz313_0 := blk_frozen BK288.out 0; have hfz313_1 := blk_frozen BK288.out 1; have hfz313_2 := blk_frozen BK288.out 2) | ((with_reducible refine gate_callee (f := 14) rfl ?_); refine goesL_ (some 30) rfl rfl Try.func14 (by kernel_rfl) rfl #[.agg #[.int .i64 a0_0, .int .i64 a0_1, .slice A0_2 l0_2.length c0_2], .int .i64 1000] rfl mapx ?_; (with_reducible refine (barscanlaw43_valid.calls a0_0 a0_1 _ _ l0_2 1000 false _ ?side1 ?side2 A5.out).mono ?_); (case side1 => repeat (first | exact (Kd.C_below HR0_2.out HB.out) | (with_reducible refine Kd.C_alloc ?_ _) | (with_reducible refine Kd.C_drewN ?_ _) | (with_reducible refine Kd.C_drew ?_))); (case side2 => exact HC0_2.out); rintro e w314 ⟨rfl, hb⟩; refine ⟨_, rfl, ?_⟩; have n0_ := Aside0.mk (blk_below (bkx BK288) hb); have n1_ := Aside0.mk (below_step (hb1 HB GE288) hb); clear BK288; clear HB; have BK288 := n0_; have HB := n1_; clear n0_ n1_; (try clear hb); (try clear hb2); (try clear hk); (try clear hi)) | ((with_reducible refine gate_callee (f := 10) rfl ?_); refine goesL_ (some 40) rfl rfl Try.func10 (by kernel_rfl) rfl #[] rfl mapx ?_; (with_reducible refine (barscanlaw43_examples.calls k  t337 _ A311.out).mono ?_); rintro e w315 ⟨rfl, hb⟩; refine ⟨_, rfl, ?_⟩; have n0_ := Aside0.mk (blk_below (bkx BK288) hb); have n1_ := Aside0.mk (below_step (hb1 HB GE288) hb); clear BK288; clear HB; have BK288 := n0_; have HB := n1_; clear n0_ n1_; (try clear hb); (try clear hb2); (try clear hk); (try clear hi)))
  go_ret
  exact ⟨by first | rfl | (simp [errW_none, errW_some] <;> rfl) | (simp [*, errW_none, errW_some] <;> rfl), by repeat (first | (with_reducible first | exact HB.out | apply below_alloc | apply pw_below_drewN | apply below_drew1 | refine below_set ?_ GE288.out) | exact HB.out)⟩

end Go.Proofs.Ytbipbbckfmilfaa.PR
