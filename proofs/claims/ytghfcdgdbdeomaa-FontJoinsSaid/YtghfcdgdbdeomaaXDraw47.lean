/-
Draw of the font: the table of the pixels of its characters at the quotients. Conditions: the string's length.
-/
import Derived.Test.YtghfcdgdbdeomaaXCheck47
import Derived.Test.YtghfcdgdbdeomaaXRaster47
import Derived.Test.YtghfcdgdbdeomaaXStores47
import Derived.Test.YtghfcdgdbdeomaaPRx6
namespace Go.Proofs.Ytghfcdgdbdeomaa.Pure
set_option linter.unusedVariables false
set_option linter.unusedSimpArgs false
open Go.RowKit Go.Proofs.Ytghfcdgdbdeomaa.PR Go.Proofs.YtghfcdgdbdeomaaW.PrintWords Go.Proofs.YtghfcdgdbdeomaaW.PrintLast Go.Proofs.YtghfcdgdbdeomaaW.PrintMore Go.Proofs.Ytghfcdgdbdeomaa.XWords Go.Proofs.Ytghfcdgdbdeomaa.XPure

/-- The width of a line of text at scale 1. -/
def wd (s : ByteArray) : Int := 6 * (s.size : Int) - 1
/-- A pixel of a line of text at scale 1. -/
def paint (s : ByteArray) (u v : Int) : Bool := if u % 6 < 5 ∧ u / 6 < (s.size : Int) then dot (bt s (u / 6)) (v * 5 + u % 6).toNat else false
def pict (s : ByteArray) (sc : Int) : List Bool := upto (sc * wd s) (fun U V => paint s (U / sc) (V / sc)) (sc * wd s * (sc * 7)).toNat
/-- What Draw answers. -/
def drw (s : ByteArray) (sc : Int) : Int × Int × List Bool × Int := if chk s sc = 0 then (sc * wd s, sc * 7, pict s sc, 0) else (0, 0, [], chk s sc)

theorem dark_eq {c : Int} (hc : Byte c) (ho : ok c = true) (x : Int) {u v : Int} (hu : 0 ≤ u) (hu5 : u < 5) (hv : 0 ≤ v) (hv7 : v < 7) : font_glyph_dark.f x (fnd c).2.1 u v = some (dot c (v * 5 + u).toNat) := by
  have hs := (ok_size hc ho).1
  unfold font_glyph_dark.f dot
  rw [w64 (n := v * 5) (by omega), w64 (n := v * 5 + u) (by omega), if_pos (by omega), if_pos (by omega), show (((v * 5 + u).toNat : Nat) : Int) = v * 5 + u by omega]
/-- The bitmap of a line of text at scale 1. -/
def base (s : ByteArray) : List Bool := upto (wd s) (paint s) (wd s * 7).toNat
theorem wide {w sc : Int} (hw : 1 ≤ w) (h1 : 1 ≤ sc) (h : w * sc ≤ 4096) : w ≤ 4096 ∧ 1 ≤ sc * w ∧ sc * w ≤ 4096 := by
  have e : sc * w = w * sc := Int.mul_comm _ _
  have a : w * 1 ≤ w * sc := Int.mul_le_mul_of_nonneg_left h1 (by omega)
  omega
theorem enlarge_base {s : ByteArray} (h0 : 1 ≤ s.size) {sc : Int} (h1 : 1 ≤ sc) (h2 : sc ≤ 64) (hw : wd s * sc ≤ 4096) : Ev (fun k => raster_Enlarge.f k (wd s) 7 (base s) sc) (sc * wd s, sc * 7, pict s sc, 0) := by
  have hwd : 1 ≤ wd s := by unfold wd; omega
  obtain ⟨b1, b2, b3⟩ := wide hwd h1 hw
  have b4 : sc * wd s * (sc * 7) ≤ 4096 * 448 := Int.mul_le_mul b3 (by omega) (by omega) (by omega)
  have F : Fits (wd s) 7 := ⟨hwd, b1, by omega, by omega, by omega⟩
  have V : Valid (wd s) 7 (base s).length := by
    refine ⟨F, ?_⟩
    unfold base
    rw [upto_length]
    omega
  have E := enlarge_ok (l := base s) V h1 (by omega) (K := sc) ⟨b2, b3, by omega, by omega, by omega⟩
  have e : enlargeOf (wd s) 7 (base s) sc = pict s sc := by
    unfold enlargeOf pict
    refine upto_in (by omega) (fun U V hU hUW hV hVH => ?_)
    obtain ⟨a1, a2, _⟩ := quot_in h1 hU hUW
    obtain ⟨c1, c2, _⟩ := quot_in h1 hV hVH
    rw [pix_in a1 a2 c1 c2]
    unfold base
    exact upto_getD a1 a2 c1 (by have := row_lt (w := wd s) (h := 7) a2 a1 c2 c1; omega)
  rw [e] at E
  exact E
theorem Draw_ev (s : ByteArray) (sc : Int) (hs : s.size ≤ 140737488351232) : Ev (fun k => font_Draw.f k s sc) (drw s sc) := by
  unfold font_Draw.f
  refine Ev.bind (check_ev s sc hs) ?_
  unfold drw
  by_cases hc : chk s sc = 0
  · obtain ⟨h0, hA, h1, h2, hw⟩ := chk_zero hc
    have hwd : 1 ≤ wd s := by unfold wd; omega
    obtain ⟨b1, b2, b3⟩ := wide hwd h1 (show wd s * sc ≤ 4096 from hw)
    have F : Fits (wd s) 7 := ⟨hwd, b1, by omega, by omega, by omega⟩
    simp only [if_pos hc, w64_len hs]
    rw [show (6 * (s.size : Int) - 1) = wd s from rfl, new_eq, if_pos F]
    simp only [Option.bind_some]
    have hN : (s.size : Int) * 6 = wd s + 1 := by unfold wd; omega
    refine ev_blocks (W := wd s) (H := 7) (B := 6) (q := 5) (n := s.size) (by omega) (by omega) (by omega) (by omega) (by omega) (by omega) (fun i u hi hin hu huq => by unfold wd; omega)
      (fun i v u => dot (bt s i) (v * 5 + u).toNat)
      (fun k i acc => font_Draw.l0 k sc (wd s) 7 acc s i)
      (fun k i v acc => font_Draw.l1 k sc i v (wd s) 7 acc s (i + 1) (fnd (bt s i)).1 (fnd (bt s i)).2.1)
      (fun k i v u acc => font_Draw.l2 k sc i v v u (wd s) 7 acc s (i + 1) (fnd (bt s i)).1 (fnd (bt s i)).2.1) _ ?_ ?_ ?_ ?_ ?_ ?_
    · intro i acc hi hin K
      have ho : ok (bt s i) = true := by
        have := hA i.toNat (by omega)
        rwa [show ((i.toNat : Nat) : Int) = i by omega] at this
      have hl := ok_low (bt_byte s i) ho
      obtain ⟨e1, e2⟩ := step_low hi hin hl
      refine Ev.step (f := fun k => (font_find.f k (bt s i)).bind fun bt165 => (font_Draw.l1 k sc i 0 (wd s) 7 acc s (i + 1) bt165.1 bt165.2.1)) (fun k => ?_) (Ev.bind (find_ev (bt_byte s i)) K)
      simp only [font_Draw.l0]
      have hb := bt_byte s i
      rw [if_pos hi, if_pos hin, e1, e2, Int.emod_eq_of_lt hb.1 (by omega)]
    · intro k i v acc hi hin hv hvH
      simp only [font_Draw.l1]
      rw [if_pos hvH]
    · intro k i v u acc hi hin hv hvH hu huq hal
      have ho : ok (bt s i) = true := by
        have := hA i.toNat (by omega)
        rwa [show ((i.toNat : Nat) : Int) = i by omega] at this
      have hfit : 6 * i + u < wd s := by unfold wd; omega
      have hr := row_lt (w := wd s) (h := 7) hfit (by omega) hvH hv
      have hr0 := row_nonneg (w := wd s) (u := 6 * i + u) (v := v) (by omega) (by omega) hv
      have hvw : 0 ≤ v * wd s := Int.mul_nonneg hv (by omega)
      have hlen : ((acc.length : Nat) : Int) = wd s * 7 := by omega
      have x1 : wrap64 (v * wd s) = v * wd s := w64 (by omega)
      have x2 : wrap64 (6 * i) = 6 * i := w64 (by omega)
      have x3 : wrap64 (v * wd s + 6 * i) = v * wd s + 6 * i := w64 (by omega)
      have x4 : wrap64 (v * wd s + 6 * i + u) = v * wd s + (6 * i + u) := by rw [w64 (by omega)]; omega
      have x5 : wrap64 (u + 1) = u + 1 := w64 (by omega)
      simp only [font_Draw.l2, dark_eq (bt_byte s i) ho _ hu huq hv hvH, Option.bind_some, x1, x2, x3, x4, x5]
      rw [if_pos huq, if_pos hr0, if_pos (by omega)]
    · intro k i v acc hi hin hv hvH
      simp only [font_Draw.l2]
      rw [if_neg (by omega), w64 (by omega)]
    · intro k i acc hi hin
      simp only [font_Draw.l1]
      rw [if_neg (by omega)]
    · refine Ev.step (f := fun k => (raster_Enlarge.f k (wd s) 7 (base s) sc).bind fun bt171 => (some (bt171.1, bt171.2.1, bt171.2.2.1, bt171.2.2.2))) (fun k => ?_) (Ev.bind (enlarge_base h0 h1 h2 hw) (Ev.now _))
      simp only [font_Draw.l0]
      rw [if_pos (by omega), if_neg (by omega)]
      rfl
  · simp only [if_neg hc]
    exact Ev.now _
end Go.Proofs.Ytghfcdgdbdeomaa.Pure
