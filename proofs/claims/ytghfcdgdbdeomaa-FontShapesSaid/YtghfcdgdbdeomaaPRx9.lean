-- Written by this session's own program (myprint.py).
import Derived.Test.YtghfcdgdbdeomaaPRx0
import Derived.Test.YtghfcdgdbdeomaaPRx2
import Derived.Test.YtghfcdgdbdeomaaPRx3
import Derived.Test.YtghfcdgdbdeomaaPRx7
import Derived.Test.YtghfcdgdbdeomaaPRx8
namespace Go.Proofs.Ytghfcdgdbdeomaa.PR
open Go.RowKit Go.Proofs.YtghfcdgdbdeomaaW.PrintWords Go.Proofs.YtghfcdgdbdeomaaW.PrintLast Go.Proofs.YtghfcdgdbdeomaaW.PrintMore Go.Proofs.Ytghfcdgdbdeomaa.XWords Go.Proofs.Ytghfcdgdbdeomaa.XShort
attribute [local go_sem] max2_int min2_int max_two min_two max_three min_three max_four min_four   -- for this text's walks alone
set_option linter.unusedVariables false
set_option linter.unusedSimpArgs false

/-! ### barscanlaw47_FontShapes: function 3 -/
def barscanlaw47_FontShapes.l0 : Nat → Int → Int → Bool → Int → Int → Int → List Bool → Option (Bool)
 | 0, _, _, _, _, _, _, _ => none
 | k + 1, x0, x1, x7, x52, x230000, x230001, x230002 => if x52 < 7 then (if 0 ≤ (wrap64 (5 * x52)) then (if (wrap64 (5 * x52)) ≤ (wrap64 ((wrap64 (5 * x52)) + 5)) then (if (wrap64 ((wrap64 (5 * x52)) + 5)) ≤ (x230002.length : Int) then ((some ((x230002.take ((wrap64 ((wrap64 (5 * x52)) + 5)) : Int).toNat).drop ((wrap64 (5 * x52)) : Int).toNat : List Bool)).bind fun y232 => (if x7 = true then ((barscanlaw47_word.f x0).bind fun t236 => (if t236 = true then (if 0 < (y232.length : Int) then (if rdOf false y232 0 = true then (barscanlaw47_FontShapes.l0 k x0 x1 true (wrap64 (x52 + 1)) x230000 x230001 x230002) else (if 1 < (y232.length : Int) then (if rdOf false y232 1 = true then (barscanlaw47_FontShapes.l0 k x0 x1 true (wrap64 (x52 + 1)) x230000 x230001 x230002) else (if 2 < (y232.length : Int) then (if rdOf false y232 2 = true then (barscanlaw47_FontShapes.l0 k x0 x1 true (wrap64 (x52 + 1)) x230000 x230001 x230002) else (if 3 < (y232.length : Int) then (if rdOf false y232 3 = true then (barscanlaw47_FontShapes.l0 k x0 x1 true (wrap64 (x52 + 1)) x230000 x230001 x230002) else (if 4 < (y232.length : Int) then (if rdOf false y232 4 = true then (barscanlaw47_FontShapes.l0 k x0 x1 true (wrap64 (x52 + 1)) x230000 x230001 x230002) else (none)) else (none))) else (none))) else (none))) else (none))) else (none)) else (barscanlaw47_FontShapes.l0 k x0 x1 true (wrap64 (x52 + 1)) x230000 x230001 x230002))) else (if 0 < (y232.length : Int) then ((barscanlaw47_word.f x0).bind fun t243 => (if t243 = true then (if rdOf false y232 0 = true then (barscanlaw47_FontShapes.l0 k x0 x1 (rdOf false y232 0) (wrap64 (x52 + 1)) x230000 x230001 x230002) else (if 1 < (y232.length : Int) then (if rdOf false y232 1 = true then (barscanlaw47_FontShapes.l0 k x0 x1 (rdOf false y232 0) (wrap64 (x52 + 1)) x230000 x230001 x230002) else (if 2 < (y232.length : Int) then (if rdOf false y232 2 = true then (barscanlaw47_FontShapes.l0 k x0 x1 (rdOf false y232 0) (wrap64 (x52 + 1)) x230000 x230001 x230002) else (if 3 < (y232.length : Int) then (if rdOf false y232 3 = true then (barscanlaw47_FontShapes.l0 k x0 x1 (rdOf false y232 0) (wrap64 (x52 + 1)) x230000 x230001 x230002) else (if 4 < (y232.length : Int) then (if rdOf false y232 4 = true then (barscanlaw47_FontShapes.l0 k x0 x1 (rdOf false y232 0) (wrap64 (x52 + 1)) x230000 x230001 x230002) else (none)) else (none))) else (none))) else (none))) else (none))) else (barscanlaw47_FontShapes.l0 k x0 x1 (rdOf false y232 0) (wrap64 (x52 + 1)) x230000 x230001 x230002))) else (none)))) else (none)) else (none)) else (none)) else (if (x7 == (x0 == 32)) = true then (none) else ((font_Distance.f k x0 x1).bind fun bt249 => ((font_Distance.f k x1 x0).bind fun bt251 => (if bt249.2 = 0 then ((font_Closest.f k).bind fun t255 => (if x0 = x1 then (if bt249.1 = 0 then ((barscanlaw47_examples.f k).bind fun t256 => (some t256)) else (none)) else (if bt251.2 = 0 then (if bt249.1 = bt251.1 then (if t255 ≥ 2 then (if bt249.1 ≥ t255 then (if bt249.1 ≥ 4 then ((barscanlaw47_examples.f k).bind fun t257 => (some t257)) else ((barscanlaw47_word.f x0).bind fun t258 => (if t258 = true then ((barscanlaw47_word.f x1).bind fun t259 => (if t259 = true then (none) else ((barscanlaw47_examples.f k).bind fun t260 => (some t260)))) else ((barscanlaw47_examples.f k).bind fun t261 => (some t261))))) else (none)) else (none)) else (none)) else (none)))) else (if bt249.2 = 6 then (if bt251.2 = bt249.2 then ((barscanlaw47_word.f x1).bind fun t253 => (if t253 = true then (none) else ((barscanlaw47_examples.f k).bind fun t254 => (some t254)))) else (none)) else (none))))))
def barscanlaw47_FontShapes.f (k : Nat) (a0 : Int) (a1 : Int) : Option (Bool) := (font_Glyph.f k a0).bind fun bt223 => (if bt223.2.2.2 = 0 then (if bt223.1 = 5 then (if bt223.2.1 = 7 then (if (bt223.2.2.1.length : Int) = 35 then (barscanlaw47_FontShapes.l0 k a0 a1 false 0 bt223.1 bt223.2.1 bt223.2.2.1) else (none)) else (none)) else (none)) else (if bt223.2.2.2 = 6 then ((barscanlaw47_word.f a0).bind fun t230 => (if t230 = true then (none) else (if (bt223.2.2.1.length : Int) = 0 then ((barscanlaw47_examples.f k).bind fun t231 => (some t231)) else (none)))) else (none)))
theorem barscanlaw47_FontShapes.mono_l : ∀ k, (∀ y0 y1 y2 y3 y4 y5 y6, LeO (barscanlaw47_FontShapes.l0 k y0 y1 y2 y3 y4 y5 y6) (barscanlaw47_FontShapes.l0 (k + 1) y0 y1 y2 y3 y4 y5 y6))
 | 0 => fun _ _ _ _ _ _ _ r h => by simp [barscanlaw47_FontShapes.l0] at h
 | k + 1 => by
  have ih0 := barscanlaw47_FontShapes.mono_l k
  ·intro y0 y1 y2 y3 y4 y5 y6
   unfold barscanlaw47_FontShapes.l0
   repeat' first
   | (with_reducible exact ih0 _ _ _ _ _ _ _)
   | (with_reducible exact barscanlaw47_examples.mono _)
   | (with_reducible exact font_Closest.mono _)
   | (with_reducible exact font_Distance.mono _ _ _)
   | (with_reducible exact font_Glyph.mono _ _)
   | (with_reducible exact LeO.refl _)
   | (with_reducible exact LeO.none _)
   | (with_reducible refine LeO.ite ?_ ?_)
   | (with_reducible refine LeO.bind ?_ (fun _ => ?_))
   | exact ih0 _ _ _ _ _ _ _
   | exact barscanlaw47_examples.mono _
   | exact font_Closest.mono _
   | exact font_Distance.mono _ _ _
   | exact font_Glyph.mono _ _
   | exact LeO.none _
   | refine LeO.ite ?_ ?_
   | refine LeO.bind ?_ (fun _ => ?_)
theorem barscanlaw47_FontShapes.mono : ∀ a0 a1 k, LeO (barscanlaw47_FontShapes.f k a0 a1) (barscanlaw47_FontShapes.f (k + 1) a0 a1) := by
 intro a0 a1 k
 have ih0 := barscanlaw47_FontShapes.mono_l k
 unfold barscanlaw47_FontShapes.f
 repeat' first
   | (with_reducible exact ih0 _ _ _ _ _ _ _)
   | (with_reducible exact barscanlaw47_examples.mono _)
   | (with_reducible exact font_Closest.mono _)
   | (with_reducible exact font_Distance.mono _ _ _)
   | (with_reducible exact font_Glyph.mono _ _)
   | (with_reducible exact LeO.refl _)
   | (with_reducible exact LeO.none _)
   | (with_reducible refine LeO.ite ?_ ?_)
   | (with_reducible refine LeO.bind ?_ (fun _ => ?_))
   | exact ih0 _ _ _ _ _ _ _
   | exact barscanlaw47_examples.mono _
   | exact font_Closest.mono _
   | exact font_Distance.mono _ _ _
   | exact font_Glyph.mono _ _
   | exact LeO.none _
   | refine LeO.ite ?_ ?_
   | refine LeO.bind ?_ (fun _ => ?_)
set_option maxHeartbeats 8000000 in
set_option maxRecDepth 100000 in
theorem barscanlaw47_FontShapes.calls (k : Nat) (a0 : Int) (a1 : Int) (r : Bool) (w : World) (h : barscanlaw47_FontShapes.f k a0 a1 = some r) :
  Calls Try.prog 3 #[.int .u8 a0, .int .u8 a1] w fun e w' => e = .returned (.bool r) ∧ Below w.heap.size w w' := by
 have hu24 := Try.underlying24
 have HB := Aside0.mk (Below.refl w.heap.size w)
 have H : ((font_Glyph.f k a0).bind fun bt223 => (if bt223.2.2.2 = 0 then (if bt223.1 = 5 then (if bt223.2.1 = 7 then (if (bt223.2.2.1.length : Int) = 35 then (barscanlaw47_FontShapes.l0 k a0 a1 false 0 bt223.1 bt223.2.1 bt223.2.2.1) else (none)) else (none)) else (none)) else (if bt223.2.2.2 = 6 then ((barscanlaw47_word.f a0).bind fun t230 => (if t230 = true then (none) else (if (bt223.2.2.1.length : Int) = 0 then ((barscanlaw47_examples.f k).bind fun t231 => (some t231)) else (none)))) else (none)))) = some r := h
 clear h
 replace H := Option.bind_eq_some_iff.mp H
 obtain ⟨⟨t223, t224, t225, t228⟩, A30, H⟩ := H
 replace H : (if t228 = 0 then (if t223 = 5 then (if t224 = 7 then (if (t225.length : Int) = 35 then (barscanlaw47_FontShapes.l0 k a0 a1 false 0 t223 t224 t225) else (none)) else (none)) else (none)) else (if t228 = 6 then ((barscanlaw47_word.f a0).bind fun t230 => (if t230 = true then (none) else (if (t225.length : Int) = 0 then ((barscanlaw47_examples.f k).bind fun t231 => (some t231)) else (none)))) else (none))) = some r := H
 have A3 := Aside0.mk A30
 clear A30
 by_cases c4 : t228 = 0
 ·rw [if_pos c4] at H
  have c4b0 : (t228 == 0) = true := beq_iff_eq.mpr c4
  have c4b1 : (t228 != 0) = false := bne_eq_false_iff_eq.mpr c4
  clear c4
  by_cases c5 : t223 = 5
  ·rw [if_pos c5] at H
   have c5b0 : (t223 == 5) = true := beq_iff_eq.mpr c5
   have c5b1 : (t223 != 5) = false := bne_eq_false_iff_eq.mpr c5
   clear c5
   by_cases c6 : t224 = 7
   ·rw [if_pos c6] at H
    have c6b0 : (t224 == 7) = true := beq_iff_eq.mpr c6
    have c6b1 : (t224 != 7) = false := bne_eq_false_iff_eq.mpr c6
    clear c6
    by_cases c7 : (t225.length : Int) = 35
    ·rw [if_pos c7] at H
     have c7b0 : ((t225.length : Int) == 35) = true := beq_iff_eq.mpr c7
     have c7b1 : ((t225.length : Int) != 35) = false := bne_eq_false_iff_eq.mpr c7
     clear c7
     have H' := Aside0.mk H
     clear H
     go_enter Try.func3, Try.ntmps3
     go_wp2_with (first | ((with_reducible refine gate_callee (f := 7) rfl ?_); refine goesL_ (some 17) rfl rfl Try.func7 (by kernel_rfl) rfl #[.int .u8 a0] rfl mapx ?_; (with_reducible refine (font_Glyph.calls k a0 t223 t224 t225 t228 _ A3.out).mono ?_); rintro e w8 ⟨v226, rfl, ho0, hb⟩; refine ⟨_, rfl, ?_⟩; have n0_ := Aside0.mk (Kd.R_lower ho0 (below_size (hb0 HB))); have n1_ := Aside0.mk (below_step (hb0 HB) hb); clear HB; have HO227 := n0_; have HB := n1_; clear n0_ n1_; (try clear hb); (try clear hb2); (try clear hk); (try clear hi); (try clear ho0)) | ((with_reducible refine gate_dst (N := 5) rfl ?_); (try (refine gate_guard (by rfl) ?_; dsimp only)); refine box_event ?hg (N := 5) ?hd (cs := #[.int .i64 0, .int .i64 0, .slice none 0 0]) (t := 24) ?hr ?_; (case hd => rfl); (case hg => rfl); (case hr => first | (go_simp; done) | (go_simp; rfl)); intro gb229 hg w9 hbox hb; have n0_ := Aside0.mk (Kd.R_below (rkx HO227) hb); have n1_ := Aside0.mk (below_step (hb0 HB) hb); have n2_ := Aside0.mk (hbox); have n3_ := Aside0.mk ((by rw [hg]; exact (below_size (hb0 HB)) : w.heap.size ≤ gb229)); have n4_ := Aside0.mk ((by rw [hg]; exact (below_size (hb0 HB)) : w.heap.size ≤ gb229)); clear HO227; clear HB; have HO227 := n0_; have HB := n1_; have BK229 := n2_; have GW229 := n3_; have GE229 := n4_; clear n0_ n1_ n2_ n3_ n4_; clear hb hbox hg; have hcz10_0 : w9.cell? ⟨gb229, 0, none⟩ = some (.int .i64 0) := (blk_cell BK229.out 0).trans rfl; have hcz10_1 : w9.cell? ⟨gb229, 1, none⟩ = some (.int .i64 0) := (blk_cell BK229.out 1).trans rfl; have hcz10_2 : w9.cell? ⟨gb229, 2, none⟩ = some (.slice none 0 0) := (blk_cell BK229.out 2).trans rfl; have hfz10_0 := blk_frozen BK229.out 0; have hfz10_1 := blk_frozen BK229.out 1; have hfz10_2 := blk_frozen BK229.out 2; obtain ⟨Ao11, co11, eo11⟩ := Kd.R_slice HO227.out; subst eo11))
     go_loopg [7, 52] k (fun kq v7 v52 w' => ∃ (x7_1 : Bool) (x52_1 : Int), v7 = .bool x7_1 ∧ v52 = .int .i64 x52_1 ∧ Aside0 (barscanlaw47_FontShapes.l0 kq a0 a1 x7_1 x52_1 t223 t224 t225 = some r) ∧ Aside0 (kq ≤ k) ∧ Aside0 (Kd.R Kd.bool 4 w' w.heap.size (fun _ => True) (.slice Ao11 t225.length co11) t225) ∧ Aside0 (w'.heap[gb229]? = some (.cells #[.int .i64 t223, .int .i64 t224, (.slice Ao11 t225.length co11)] 24 (0, 0))) ∧ Aside0 (Below w.heap.size w w'))
     case atStart => exact ⟨(false), (0), (by first | rfl | (simp; done) | (simp [*]; done)), (by first | rfl | (simp; done) | (simp [*]; done)), H', ⟨Nat.le_refl _⟩, ⟨by refine rkt ?_; exact Kd.R_mono (Kd.R_far (p := ⟨gb229, 2, none⟩) (Kd.R_far (p := ⟨gb229, 1, none⟩) (Kd.R_far (p := ⟨gb229, 0, none⟩) (Kd.R_types HO227.out BK229.out (by decide)) (fun _ hk => hk.2) (.int .i64 t223)) (fun _ hk => hk.2) (.int .i64 t224)) (fun _ hk => hk.2) (.slice Ao11 t225.length co11)) (fun _ hk => trivial)⟩, ⟨by refine bkt ?_; refine blk_put (cs := #[.int .i64 t223, .int .i64 t224, .slice none 0 0]) ?_ 2 _ rfl; refine bkt ?_; refine blk_put (cs := #[.int .i64 t223, .int .i64 0, .slice none 0 0]) ?_ 1 _ rfl; refine bkt ?_; refine blk_put (cs := #[.int .i64 0, .int .i64 0, .slice none 0 0]) ?_ 0 _ rfl; refine bkt ?_; exact BK229.out⟩, ⟨hb1 HB GE229⟩⟩
     case round =>
      clear H'
      try clear p2
      try clear c3
      try clear c4
      try clear c4b0
      try clear c4b1
      try clear c5
      try clear c5b0
      try clear c5b1
      try clear c6
      try clear c6b0
      try clear c6b1
      try clear c7
      try clear c7b0
      try clear c7b1
      try clear hcz10_0
      try clear hcz10_1
      try clear hcz10_2
      try clear hfz10_0
      try clear hfz10_1
      try clear hfz10_2
      obtain ⟨x7_1, x52_1, rfl, rfl, HA, HK1, HO_230002, BK229, HB⟩ := hrel
      cases gk with
      | zero => exact absurd HA.out (by simp [barscanlaw47_FontShapes.l0])
      | succ k1 =>
       have H := HA.out
       clear HA
       simp only [barscanlaw47_FontShapes.l0] at H
       by_cases c12 : x52_1 < 7
       ·rw [if_pos c12] at H
        have c12b0 : decide (x52_1 < 7) = true := decide_eq_true c12
        clear c12
        obtain ⟨ji13, hji13⟩ : ∃ j_ : Int, (wrap64 (5 * x52_1)) = j_ := ⟨_, rfl⟩
        replace H : (if 0 ≤ (ji13) then (if (ji13) ≤ (wrap64 ((ji13) + 5)) then (if (wrap64 ((ji13) + 5)) ≤ (t225.length : Int) then ((some ((t225.take ((wrap64 ((ji13) + 5)) : Int).toNat).drop ((ji13) : Int).toNat : List Bool)).bind fun y232 => (if x7_1 = true then ((barscanlaw47_word.f a0).bind fun t236 => (if t236 = true then (if 0 < (y232.length : Int) then (if rdOf false y232 0 = true then (barscanlaw47_FontShapes.l0 k1 a0 a1 true (wrap64 (x52_1 + 1)) t223 t224 t225) else (if 1 < (y232.length : Int) then (if rdOf false y232 1 = true then (barscanlaw47_FontShapes.l0 k1 a0 a1 true (wrap64 (x52_1 + 1)) t223 t224 t225) else (if 2 < (y232.length : Int) then (if rdOf false y232 2 = true then (barscanlaw47_FontShapes.l0 k1 a0 a1 true (wrap64 (x52_1 + 1)) t223 t224 t225) else (if 3 < (y232.length : Int) then (if rdOf false y232 3 = true then (barscanlaw47_FontShapes.l0 k1 a0 a1 true (wrap64 (x52_1 + 1)) t223 t224 t225) else (if 4 < (y232.length : Int) then (if rdOf false y232 4 = true then (barscanlaw47_FontShapes.l0 k1 a0 a1 true (wrap64 (x52_1 + 1)) t223 t224 t225) else (none)) else (none))) else (none))) else (none))) else (none))) else (none)) else (barscanlaw47_FontShapes.l0 k1 a0 a1 true (wrap64 (x52_1 + 1)) t223 t224 t225))) else (if 0 < (y232.length : Int) then ((barscanlaw47_word.f a0).bind fun t243 => (if t243 = true then (if rdOf false y232 0 = true then (barscanlaw47_FontShapes.l0 k1 a0 a1 (rdOf false y232 0) (wrap64 (x52_1 + 1)) t223 t224 t225) else (if 1 < (y232.length : Int) then (if rdOf false y232 1 = true then (barscanlaw47_FontShapes.l0 k1 a0 a1 (rdOf false y232 0) (wrap64 (x52_1 + 1)) t223 t224 t225) else (if 2 < (y232.length : Int) then (if rdOf false y232 2 = true then (barscanlaw47_FontShapes.l0 k1 a0 a1 (rdOf false y232 0) (wrap64 (x52_1 + 1)) t223 t224 t225) else (if 3 < (y232.length : Int) then (if rdOf false y232 3 = true then (barscanlaw47_FontShapes.l0 k1 a0 a1 (rdOf false y232 0) (wrap64 (x52_1 + 1)) t223 t224 t225) else (if 4 < (y232.length : Int) then (if rdOf false y232 4 = true then (barscanlaw47_FontShapes.l0 k1 a0 a1 (rdOf false y232 0) (wrap64 (x52_1 + 1)) t223 t224 t225) else (none)) else (none))) else (none))) else (none))) else (none))) else (barscanlaw47_FontShapes.l0 k1 a0 a1 (rdOf false y232 0) (wrap64 (x52_1 + 1)) t223 t224 t225))) else (none)))) else (none)) else (none)) else (none)) = some r := by first | (rw [hji13] at H; exact H) | (simp only [hji13] at H ⊢; exact H)
        have hji13w : (IntKind.i64.wrap (5 * x52_1)) = ji13 := (i64_w _).trans hji13
        by_cases c14 : 0 ≤ (ji13)
        ·rw [if_pos c14] at H
         have c14b0 := eq_true c14
         have c14b1 : decide (0 ≤ (ji13)) = true := decide_eq_true c14
         clear c14
         by_cases c15 : (ji13) ≤ (wrap64 ((ji13) + 5))
         ·rw [if_pos c15] at H
          have c15b0 := eq_true c15
          have c15b1 : decide ((ji13) ≤ (wrap64 ((ji13) + 5))) = true := decide_eq_true c15
          by_cases c16 : (wrap64 ((ji13) + 5)) ≤ (t225.length : Int)
          ·rw [if_pos c16] at H
           have c16b0 := eq_true c16
           have c16b1 : decide ((wrap64 ((ji13) + 5)) ≤ (t225.length : Int)) = true := decide_eq_true c16
           obtain ⟨y232, hy232⟩ : ∃ y_ : List Bool, y_ = ((t225.take ((wrap64 ((ji13) + 5)) : Int).toNat).drop ((ji13) : Int).toNat) := ⟨_, rfl⟩
           replace H : (if x7_1 = true then ((barscanlaw47_word.f a0).bind fun t236 => (if t236 = true then (if 0 < (y232.length : Int) then (if rdOf false y232 0 = true then (barscanlaw47_FontShapes.l0 k1 a0 a1 true (wrap64 (x52_1 + 1)) t223 t224 t225) else (if 1 < (y232.length : Int) then (if rdOf false y232 1 = true then (barscanlaw47_FontShapes.l0 k1 a0 a1 true (wrap64 (x52_1 + 1)) t223 t224 t225) else (if 2 < (y232.length : Int) then (if rdOf false y232 2 = true then (barscanlaw47_FontShapes.l0 k1 a0 a1 true (wrap64 (x52_1 + 1)) t223 t224 t225) else (if 3 < (y232.length : Int) then (if rdOf false y232 3 = true then (barscanlaw47_FontShapes.l0 k1 a0 a1 true (wrap64 (x52_1 + 1)) t223 t224 t225) else (if 4 < (y232.length : Int) then (if rdOf false y232 4 = true then (barscanlaw47_FontShapes.l0 k1 a0 a1 true (wrap64 (x52_1 + 1)) t223 t224 t225) else (none)) else (none))) else (none))) else (none))) else (none))) else (none)) else (barscanlaw47_FontShapes.l0 k1 a0 a1 true (wrap64 (x52_1 + 1)) t223 t224 t225))) else (if 0 < (y232.length : Int) then ((barscanlaw47_word.f a0).bind fun t243 => (if t243 = true then (if rdOf false y232 0 = true then (barscanlaw47_FontShapes.l0 k1 a0 a1 (rdOf false y232 0) (wrap64 (x52_1 + 1)) t223 t224 t225) else (if 1 < (y232.length : Int) then (if rdOf false y232 1 = true then (barscanlaw47_FontShapes.l0 k1 a0 a1 (rdOf false y232 0) (wrap64 (x52_1 + 1)) t223 t224 t225) else (if 2 < (y232.length : Int) then (if rdOf false y232 2 = true then (barscanlaw47_FontShapes.l0 k1 a0 a1 (rdOf false y232 0) (wrap64 (x52_1 + 1)) t223 t224 t225) else (if 3 < (y232.length : Int) then (if rdOf false y232 3 = true then (barscanlaw47_FontShapes.l0 k1 a0 a1 (rdOf false y232 0) (wrap64 (x52_1 + 1)) t223 t224 t225) else (if 4 < (y232.length : Int) then (if rdOf false y232 4 = true then (barscanlaw47_FontShapes.l0 k1 a0 a1 (rdOf false y232 0) (wrap64 (x52_1 + 1)) t223 t224 t225) else (none)) else (none))) else (none))) else (none))) else (none))) else (barscanlaw47_FontShapes.l0 k1 a0 a1 (rdOf false y232 0) (wrap64 (x52_1 + 1)) t223 t224 t225))) else (none))) = some r := by first | (rw [hy232]; with_reducible exact H) | (have H2_ := (Option.bind_some _ _).symm.trans H; rw [hy232]; with_reducible exact H2_) | (have H2_ := (Option.bind_some _ _).symm.trans H; with_reducible exact H2_) | with_reducible exact H | (rw [hy232]; exact H) | exact H
           have Ny232 := Aside0.mk hy232
           clear hy232
           by_cases c17 : x7_1 = true
           ·subst c17
            have H1 : ((barscanlaw47_word.f a0).bind fun t236 => (if t236 = true then (if 0 < (y232.length : Int) then (if rdOf false y232 0 = true then (barscanlaw47_FontShapes.l0 k1 a0 a1 true (wrap64 (x52_1 + 1)) t223 t224 t225) else (if 1 < (y232.length : Int) then (if rdOf false y232 1 = true then (barscanlaw47_FontShapes.l0 k1 a0 a1 true (wrap64 (x52_1 + 1)) t223 t224 t225) else (if 2 < (y232.length : Int) then (if rdOf false y232 2 = true then (barscanlaw47_FontShapes.l0 k1 a0 a1 true (wrap64 (x52_1 + 1)) t223 t224 t225) else (if 3 < (y232.length : Int) then (if rdOf false y232 3 = true then (barscanlaw47_FontShapes.l0 k1 a0 a1 true (wrap64 (x52_1 + 1)) t223 t224 t225) else (if 4 < (y232.length : Int) then (if rdOf false y232 4 = true then (barscanlaw47_FontShapes.l0 k1 a0 a1 true (wrap64 (x52_1 + 1)) t223 t224 t225) else (none)) else (none))) else (none))) else (none))) else (none))) else (none)) else (barscanlaw47_FontShapes.l0 k1 a0 a1 true (wrap64 (x52_1 + 1)) t223 t224 t225))) = some r := by rw [if_pos rfl] at H; exact H
            clear H
            have H := H1
            clear H1
            replace H := Option.bind_eq_some_iff.mp H
            obtain ⟨t236, A180, H⟩ := H
            replace H : (if t236 = true then (if 0 < (y232.length : Int) then (if rdOf false y232 0 = true then (barscanlaw47_FontShapes.l0 k1 a0 a1 true (wrap64 (x52_1 + 1)) t223 t224 t225) else (if 1 < (y232.length : Int) then (if rdOf false y232 1 = true then (barscanlaw47_FontShapes.l0 k1 a0 a1 true (wrap64 (x52_1 + 1)) t223 t224 t225) else (if 2 < (y232.length : Int) then (if rdOf false y232 2 = true then (barscanlaw47_FontShapes.l0 k1 a0 a1 true (wrap64 (x52_1 + 1)) t223 t224 t225) else (if 3 < (y232.length : Int) then (if rdOf false y232 3 = true then (barscanlaw47_FontShapes.l0 k1 a0 a1 true (wrap64 (x52_1 + 1)) t223 t224 t225) else (if 4 < (y232.length : Int) then (if rdOf false y232 4 = true then (barscanlaw47_FontShapes.l0 k1 a0 a1 true (wrap64 (x52_1 + 1)) t223 t224 t225) else (none)) else (none))) else (none))) else (none))) else (none))) else (none)) else (barscanlaw47_FontShapes.l0 k1 a0 a1 true (wrap64 (x52_1 + 1)) t223 t224 t225)) = some r := H
            have A18 := Aside0.mk A180
            clear A180
            by_cases c19 : t236 = true
            ·subst c19
             have H1 : (if 0 < (y232.length : Int) then (if rdOf false y232 0 = true then (barscanlaw47_FontShapes.l0 k1 a0 a1 true (wrap64 (x52_1 + 1)) t223 t224 t225) else (if 1 < (y232.length : Int) then (if rdOf false y232 1 = true then (barscanlaw47_FontShapes.l0 k1 a0 a1 true (wrap64 (x52_1 + 1)) t223 t224 t225) else (if 2 < (y232.length : Int) then (if rdOf false y232 2 = true then (barscanlaw47_FontShapes.l0 k1 a0 a1 true (wrap64 (x52_1 + 1)) t223 t224 t225) else (if 3 < (y232.length : Int) then (if rdOf false y232 3 = true then (barscanlaw47_FontShapes.l0 k1 a0 a1 true (wrap64 (x52_1 + 1)) t223 t224 t225) else (if 4 < (y232.length : Int) then (if rdOf false y232 4 = true then (barscanlaw47_FontShapes.l0 k1 a0 a1 true (wrap64 (x52_1 + 1)) t223 t224 t225) else (none)) else (none))) else (none))) else (none))) else (none))) else (none)) = some r := by rw [if_pos rfl] at H; exact H
             clear H
             have H := H1
             clear H1
             by_cases c20 : 0 < (y232.length : Int)
             ·rw [if_pos c20] at H
              have c20b0 : decide (0 < (y232.length : Int)) = true := decide_eq_true c20
              have c20b1 : decide (0 < y232.length) = true := decide_eq_true (by omega)
              clear c20
              obtain ⟨bq21, hbq21⟩ : ∃ b_ : Bool, b_ = (rdOf false y232 0) := ⟨_, rfl⟩
              replace H : (if bq21 = true then (barscanlaw47_FontShapes.l0 k1 a0 a1 true (wrap64 (x52_1 + 1)) t223 t224 t225) else (if 1 < (y232.length : Int) then (if rdOf false y232 1 = true then (barscanlaw47_FontShapes.l0 k1 a0 a1 true (wrap64 (x52_1 + 1)) t223 t224 t225) else (if 2 < (y232.length : Int) then (if rdOf false y232 2 = true then (barscanlaw47_FontShapes.l0 k1 a0 a1 true (wrap64 (x52_1 + 1)) t223 t224 t225) else (if 3 < (y232.length : Int) then (if rdOf false y232 3 = true then (barscanlaw47_FontShapes.l0 k1 a0 a1 true (wrap64 (x52_1 + 1)) t223 t224 t225) else (if 4 < (y232.length : Int) then (if rdOf false y232 4 = true then (barscanlaw47_FontShapes.l0 k1 a0 a1 true (wrap64 (x52_1 + 1)) t223 t224 t225) else (none)) else (none))) else (none))) else (none))) else (none))) = some r := by rw [← hbq21] at H; exact H
              have Nbq21 := Aside0.mk hbq21
              clear hbq21
              by_cases c22 : bq21 = true
              ·subst c22
               have H1 : (barscanlaw47_FontShapes.l0 k1 a0 a1 true (wrap64 (x52_1 + 1)) t223 t224 t225) = some r := by rw [if_pos rfl] at H; exact H
               clear H
               have H := H1
               clear H1
               have H' := Aside0.mk H
               clear H
               have hcz23_0 : wr.cell? ⟨gb229, 0, none⟩ = some (.int .i64 t223) := (blk_cell BK229.out 0).trans rfl
               have hcz23_1 : wr.cell? ⟨gb229, 1, none⟩ = some (.int .i64 t224) := (blk_cell BK229.out 1).trans rfl
               have hcz23_2 : wr.cell? ⟨gb229, 2, none⟩ = some (.slice Ao11 t225.length co11) := (blk_cell BK229.out 2).trans rfl
               have hfz23_0 := blk_frozen BK229.out 0
               have hfz23_1 := blk_frozen BK229.out 1
               have hfz23_2 := blk_frozen BK229.out 2
               have q24 : ((wrap64 ((ji13) + 5)) : Int) ≤ ((t225.length : Int) : Int) := of_decide_eq_true (by first | (with_reducible assumption) | assumption)
               obtain ⟨i024, hi024, _, hsz24, _⟩ := info_parts info4
               have hroom24 : t225.length ≤ co11 := (Kd.R_reads' HO_230002.out).2.1
               have hC24 : Kd.C Kd.bool _ Ao11 t225.length t225 := (Kd.R_reads' HO_230002.out).2.2
               have ql24 : ((ji13) : Int) ≤ ((wrap64 ((ji13) + 5)) : Int) := of_decide_eq_true (by first | (with_reducible assumption) | assumption)
               have q024 : (0 : Int) ≤ ((ji13) : Int) := of_decide_eq_true (by first | (with_reducible assumption) | assumption)
               have hcut24 := cut_mid (P := Try.prog) 22 4 .i64 .i64 Try.underlying22 hi024 1 hsz24 Ao11 t225.length co11 (ji13) (wrap64 ((ji13) + 5)) q024 ql24 q24 hroom24
               have hr24 := Kd.C_mid (lo := ((ji13) : Int).toNat) (hi := ((wrap64 ((ji13) + 5)) : Int).toNat) (c := co11) hC24 (by omega) (by omega) hroom24
               obtain ⟨A24, hA24⟩ : ∃ A1, A1 = (if co11 = ((ji13) : Int).toNat then Ao11 else (Ao11 : Option Addr).map (·.add (((ji13) : Int).toNat * 1))) := ⟨_, rfl⟩
               obtain ⟨c24, hc24⟩ : ∃ c1, c1 = co11 - ((ji13) : Int).toNat := ⟨_, rfl⟩
               have hy24 : y232.length = ((wrap64 ((ji13) + 5)) : Int).toNat - ((ji13) : Int).toNat := (by rw [Ny232.out, List.length_drop, List.length_take] <;> omega)
               rw [show ((t225).take ((wrap64 ((ji13) + 5)) : Int).toNat).drop ((ji13) : Int).toNat = y232 from Ny232.out.symm] at hr24
               replace hr24 : Kd.C Kd.bool _ A24 y232.length y232 := (by rw [hA24]; exact hr24)
               rw [← hy24, ← hA24, ← hc24] at hcut24
               have HR235 := Aside0.mk hr24
               have HC235 := Aside0.mk (show y232.length ≤ c24 from by rw [hy24, hc24]; exact Nat.sub_le_sub_right (Nat.le_trans (by omega) hroom24) _)
               clear hr24 hC24 hroom24 hi024 hsz24 hc24
               have KY24 := Aside0.mk hy24
               have KA24 := Aside0.mk hA24
               clear hy24 hA24
               have KL24 := Aside0.mk (show ((wrap64 ((ji13) + 5)) : Int).toNat ≤ t225.length from by omega)
               have KM24 := Aside0.mk (show ((ji13) : Int).toNat ≤ ((wrap64 ((ji13) + 5)) : Int).toNat from by omega)
               replace q24 := eq_true q24
               go_wp2_with (first | ((with_reducible refine gate_callee (f := 8) rfl ?_); refine goesL_ (some 70) rfl rfl Try.func8 (by kernel_rfl) rfl #[.int .u8 a0] rfl mapx ?_; (with_reducible refine (barscanlaw47_word.calls a0 true _ A18.out).mono ?_); rintro e w' ⟨rfl, ⟨nd, rfl⟩⟩; refine ⟨_, rfl, ?_⟩; have p237 : 0 ≤ (0 : Int) := (by omega); have q237 : 0 < (y232.length : Int) := of_decide_eq_true (by first | (with_reducible assumption) | assumption); obtain ⟨ad237, e237, hx237_0⟩ := Kd.at_bool (by repeat (first | (with_reducible exact HR235.out) | (with_reducible refine Kd.C_alloc ?_ _) | (with_reducible refine Kd.C_drewN ?_ _) | (with_reducible refine Kd.C_drew ?_) | exact HR235.out)) 0 p237 q237; (try rw [← Nbq21.out] at hx237_0); cases e237; have qi237 : (0 < y232.length) = True := eq_true (by omega); (try rw [show ((0 : Int)).toNat = 0 from rfl] at hx237_0); (try rw [Addr.add_zero'] at hx237_0); replace p237 := eq_true p237; replace q237 := eq_true q237))
               go_roundg k1
               case measure => have := HK1.out; omega
               case rel => exact ⟨(true), (wrap64 (x52_1 + 1)), (by first | rfl | (simp; done) | (simp [*]; done)), (by first | rfl | (simp; done) | (simp [*]; done)), H', ⟨by have := HK1.out; omega⟩, ⟨rkx HO_230002⟩, ⟨bkx BK229⟩, ⟨hb1 HB GE229⟩⟩
              ·replace c22 := Bool.eq_false_iff.mpr c22
               subst c22
               have H1 : (if 1 < (y232.length : Int) then (if rdOf false y232 1 = true then (barscanlaw47_FontShapes.l0 k1 a0 a1 true (wrap64 (x52_1 + 1)) t223 t224 t225) else (if 2 < (y232.length : Int) then (if rdOf false y232 2 = true then (barscanlaw47_FontShapes.l0 k1 a0 a1 true (wrap64 (x52_1 + 1)) t223 t224 t225) else (if 3 < (y232.length : Int) then (if rdOf false y232 3 = true then (barscanlaw47_FontShapes.l0 k1 a0 a1 true (wrap64 (x52_1 + 1)) t223 t224 t225) else (if 4 < (y232.length : Int) then (if rdOf false y232 4 = true then (barscanlaw47_FontShapes.l0 k1 a0 a1 true (wrap64 (x52_1 + 1)) t223 t224 t225) else (none)) else (none))) else (none))) else (none))) else (none)) = some r := by rw [if_neg (show ¬ (false = true) by decide)] at H; exact H
               clear H
               have H := H1
               clear H1
               by_cases c25 : 1 < (y232.length : Int)
               ·rw [if_pos c25] at H
                have c25b0 : decide (1 < (y232.length : Int)) = true := decide_eq_true c25
                have c25b1 : decide (1 < y232.length) = true := decide_eq_true (by omega)
                clear c25
                obtain ⟨bq26, hbq26⟩ : ∃ b_ : Bool, b_ = (rdOf false y232 1) := ⟨_, rfl⟩
                replace H : (if bq26 = true then (barscanlaw47_FontShapes.l0 k1 a0 a1 true (wrap64 (x52_1 + 1)) t223 t224 t225) else (if 2 < (y232.length : Int) then (if rdOf false y232 2 = true then (barscanlaw47_FontShapes.l0 k1 a0 a1 true (wrap64 (x52_1 + 1)) t223 t224 t225) else (if 3 < (y232.length : Int) then (if rdOf false y232 3 = true then (barscanlaw47_FontShapes.l0 k1 a0 a1 true (wrap64 (x52_1 + 1)) t223 t224 t225) else (if 4 < (y232.length : Int) then (if rdOf false y232 4 = true then (barscanlaw47_FontShapes.l0 k1 a0 a1 true (wrap64 (x52_1 + 1)) t223 t224 t225) else (none)) else (none))) else (none))) else (none))) = some r := by rw [← hbq26] at H; exact H
                have Nbq26 := Aside0.mk hbq26
                clear hbq26
                by_cases c27 : bq26 = true
                ·subst c27
                 have H1 : (barscanlaw47_FontShapes.l0 k1 a0 a1 true (wrap64 (x52_1 + 1)) t223 t224 t225) = some r := by rw [if_pos rfl] at H; exact H
                 clear H
                 have H := H1
                 clear H1
                 have H' := Aside0.mk H
                 clear H
                 have hcz28_0 : wr.cell? ⟨gb229, 0, none⟩ = some (.int .i64 t223) := (blk_cell BK229.out 0).trans rfl
                 have hcz28_1 : wr.cell? ⟨gb229, 1, none⟩ = some (.int .i64 t224) := (blk_cell BK229.out 1).trans rfl
                 have hcz28_2 : wr.cell? ⟨gb229, 2, none⟩ = some (.slice Ao11 t225.length co11) := (blk_cell BK229.out 2).trans rfl
                 have hfz28_0 := blk_frozen BK229.out 0
                 have hfz28_1 := blk_frozen BK229.out 1
                 have hfz28_2 := blk_frozen BK229.out 2
                 have q29 : ((wrap64 ((ji13) + 5)) : Int) ≤ ((t225.length : Int) : Int) := of_decide_eq_true (by first | (with_reducible assumption) | assumption)
                 obtain ⟨i029, hi029, _, hsz29, _⟩ := info_parts info4
                 have hroom29 : t225.length ≤ co11 := (Kd.R_reads' HO_230002.out).2.1
                 have hC29 : Kd.C Kd.bool _ Ao11 t225.length t225 := (Kd.R_reads' HO_230002.out).2.2
                 have ql29 : ((ji13) : Int) ≤ ((wrap64 ((ji13) + 5)) : Int) := of_decide_eq_true (by first | (with_reducible assumption) | assumption)
                 have q029 : (0 : Int) ≤ ((ji13) : Int) := of_decide_eq_true (by first | (with_reducible assumption) | assumption)
                 have hcut29 := cut_mid (P := Try.prog) 22 4 .i64 .i64 Try.underlying22 hi029 1 hsz29 Ao11 t225.length co11 (ji13) (wrap64 ((ji13) + 5)) q029 ql29 q29 hroom29
                 have hr29 := Kd.C_mid (lo := ((ji13) : Int).toNat) (hi := ((wrap64 ((ji13) + 5)) : Int).toNat) (c := co11) hC29 (by omega) (by omega) hroom29
                 obtain ⟨A29, hA29⟩ : ∃ A1, A1 = (if co11 = ((ji13) : Int).toNat then Ao11 else (Ao11 : Option Addr).map (·.add (((ji13) : Int).toNat * 1))) := ⟨_, rfl⟩
                 obtain ⟨c29, hc29⟩ : ∃ c1, c1 = co11 - ((ji13) : Int).toNat := ⟨_, rfl⟩
                 have hy29 : y232.length = ((wrap64 ((ji13) + 5)) : Int).toNat - ((ji13) : Int).toNat := (by rw [Ny232.out, List.length_drop, List.length_take] <;> omega)
                 rw [show ((t225).take ((wrap64 ((ji13) + 5)) : Int).toNat).drop ((ji13) : Int).toNat = y232 from Ny232.out.symm] at hr29
                 replace hr29 : Kd.C Kd.bool _ A29 y232.length y232 := (by rw [hA29]; exact hr29)
                 rw [← hy29, ← hA29, ← hc29] at hcut29
                 have HR235 := Aside0.mk hr29
                 have HC235 := Aside0.mk (show y232.length ≤ c29 from by rw [hy29, hc29]; exact Nat.sub_le_sub_right (Nat.le_trans (by omega) hroom29) _)
                 clear hr29 hC29 hroom29 hi029 hsz29 hc29
                 have KY29 := Aside0.mk hy29
                 have KA29 := Aside0.mk hA29
                 clear hy29 hA29
                 have KL29 := Aside0.mk (show ((wrap64 ((ji13) + 5)) : Int).toNat ≤ t225.length from by omega)
                 have KM29 := Aside0.mk (show ((ji13) : Int).toNat ≤ ((wrap64 ((ji13) + 5)) : Int).toNat from by omega)
                 replace q29 := eq_true q29
                 go_wp2_with (first | ((with_reducible refine gate_callee (f := 8) rfl ?_); refine goesL_ (some 70) rfl rfl Try.func8 (by kernel_rfl) rfl #[.int .u8 a0] rfl mapx ?_; (with_reducible refine (barscanlaw47_word.calls a0 true _ A18.out).mono ?_); rintro e w' ⟨rfl, ⟨nd, rfl⟩⟩; refine ⟨_, rfl, ?_⟩; have p237 : 0 ≤ (0 : Int) := (by omega); have q237 : 0 < (y232.length : Int) := of_decide_eq_true (by first | (with_reducible assumption) | assumption); obtain ⟨ad237, e237, hx237_0⟩ := Kd.at_bool (by repeat (first | (with_reducible exact HR235.out) | (with_reducible refine Kd.C_alloc ?_ _) | (with_reducible refine Kd.C_drewN ?_ _) | (with_reducible refine Kd.C_drew ?_) | exact HR235.out)) 0 p237 q237; (try rw [← Nbq21.out] at hx237_0); (try rw [← Nbq26.out] at hx237_0); cases e237; have qi237 : (0 < y232.length) = True := eq_true (by omega); (try rw [show ((0 : Int)).toNat = 0 from rfl] at hx237_0); (try rw [Addr.add_zero'] at hx237_0); replace p237 := eq_true p237; replace q237 := eq_true q237; have p238 : 0 ≤ (1 : Int) := (by omega); have q238 : 1 < (y232.length : Int) := of_decide_eq_true (by first | (with_reducible assumption) | assumption); obtain ⟨ad238, e238, hx238_0⟩ := Kd.at_bool (by repeat (first | (with_reducible exact HR235.out) | (with_reducible refine Kd.C_alloc ?_ _) | (with_reducible refine Kd.C_drewN ?_ _) | (with_reducible refine Kd.C_drew ?_) | exact HR235.out)) 1 p238 q238; (try rw [← Nbq21.out] at hx238_0); (try rw [← Nbq26.out] at hx238_0); obtain rfl : ad237 = ad238 := (by injection e238); (try simp only [show (1 : Int).toNat = 1 from rfl, Nat.reduceMul, Nat.reduceEqDiff, Go.Addr.add, ↓reduceIte] at hx238_0); have qi238 : (1 < y232.length) = True := eq_true (by omega); (try rw [show ((1 : Int)).toNat = 1 from rfl] at hx238_0); replace p238 := eq_true p238; replace q238 := eq_true q238))
                 go_roundg k1
                 case measure => have := HK1.out; omega
                 case rel => exact ⟨(true), (wrap64 (x52_1 + 1)), (by first | rfl | (simp; done) | (simp [*]; done)), (by first | rfl | (simp; done) | (simp [*]; done)), H', ⟨by have := HK1.out; omega⟩, ⟨rkx HO_230002⟩, ⟨bkx BK229⟩, ⟨hb1 HB GE229⟩⟩
                ·replace c27 := Bool.eq_false_iff.mpr c27
                 subst c27
                 have H1 : (if 2 < (y232.length : Int) then (if rdOf false y232 2 = true then (barscanlaw47_FontShapes.l0 k1 a0 a1 true (wrap64 (x52_1 + 1)) t223 t224 t225) else (if 3 < (y232.length : Int) then (if rdOf false y232 3 = true then (barscanlaw47_FontShapes.l0 k1 a0 a1 true (wrap64 (x52_1 + 1)) t223 t224 t225) else (if 4 < (y232.length : Int) then (if rdOf false y232 4 = true then (barscanlaw47_FontShapes.l0 k1 a0 a1 true (wrap64 (x52_1 + 1)) t223 t224 t225) else (none)) else (none))) else (none))) else (none)) = some r := by rw [if_neg (show ¬ (false = true) by decide)] at H; exact H
                 clear H
                 have H := H1
                 clear H1
                 by_cases c30 : 2 < (y232.length : Int)
                 ·rw [if_pos c30] at H
                  have c30b0 : decide (2 < (y232.length : Int)) = true := decide_eq_true c30
                  have c30b1 : decide (2 < y232.length) = true := decide_eq_true (by omega)
                  clear c30
                  obtain ⟨bq31, hbq31⟩ : ∃ b_ : Bool, b_ = (rdOf false y232 2) := ⟨_, rfl⟩
                  replace H : (if bq31 = true then (barscanlaw47_FontShapes.l0 k1 a0 a1 true (wrap64 (x52_1 + 1)) t223 t224 t225) else (if 3 < (y232.length : Int) then (if rdOf false y232 3 = true then (barscanlaw47_FontShapes.l0 k1 a0 a1 true (wrap64 (x52_1 + 1)) t223 t224 t225) else (if 4 < (y232.length : Int) then (if rdOf false y232 4 = true then (barscanlaw47_FontShapes.l0 k1 a0 a1 true (wrap64 (x52_1 + 1)) t223 t224 t225) else (none)) else (none))) else (none))) = some r := by rw [← hbq31] at H; exact H
                  have Nbq31 := Aside0.mk hbq31
                  clear hbq31
                  by_cases c32 : bq31 = true
                  ·subst c32
                   have H1 : (barscanlaw47_FontShapes.l0 k1 a0 a1 true (wrap64 (x52_1 + 1)) t223 t224 t225) = some r := by rw [if_pos rfl] at H; exact H
                   clear H
                   have H := H1
                   clear H1
                   have H' := Aside0.mk H
                   clear H
                   have hcz33_0 : wr.cell? ⟨gb229, 0, none⟩ = some (.int .i64 t223) := (blk_cell BK229.out 0).trans rfl
                   have hcz33_1 : wr.cell? ⟨gb229, 1, none⟩ = some (.int .i64 t224) := (blk_cell BK229.out 1).trans rfl
                   have hcz33_2 : wr.cell? ⟨gb229, 2, none⟩ = some (.slice Ao11 t225.length co11) := (blk_cell BK229.out 2).trans rfl
                   have hfz33_0 := blk_frozen BK229.out 0
                   have hfz33_1 := blk_frozen BK229.out 1
                   have hfz33_2 := blk_frozen BK229.out 2
                   have q34 : ((wrap64 ((ji13) + 5)) : Int) ≤ ((t225.length : Int) : Int) := of_decide_eq_true (by first | (with_reducible assumption) | assumption)
                   obtain ⟨i034, hi034, _, hsz34, _⟩ := info_parts info4
                   have hroom34 : t225.length ≤ co11 := (Kd.R_reads' HO_230002.out).2.1
                   have hC34 : Kd.C Kd.bool _ Ao11 t225.length t225 := (Kd.R_reads' HO_230002.out).2.2
                   have ql34 : ((ji13) : Int) ≤ ((wrap64 ((ji13) + 5)) : Int) := of_decide_eq_true (by first | (with_reducible assumption) | assumption)
                   have q034 : (0 : Int) ≤ ((ji13) : Int) := of_decide_eq_true (by first | (with_reducible assumption) | assumption)
                   have hcut34 := cut_mid (P := Try.prog) 22 4 .i64 .i64 Try.underlying22 hi034 1 hsz34 Ao11 t225.length co11 (ji13) (wrap64 ((ji13) + 5)) q034 ql34 q34 hroom34
                   have hr34 := Kd.C_mid (lo := ((ji13) : Int).toNat) (hi := ((wrap64 ((ji13) + 5)) : Int).toNat) (c := co11) hC34 (by omega) (by omega) hroom34
                   obtain ⟨A34, hA34⟩ : ∃ A1, A1 = (if co11 = ((ji13) : Int).toNat then Ao11 else (Ao11 : Option Addr).map (·.add (((ji13) : Int).toNat * 1))) := ⟨_, rfl⟩
                   obtain ⟨c34, hc34⟩ : ∃ c1, c1 = co11 - ((ji13) : Int).toNat := ⟨_, rfl⟩
                   have hy34 : y232.length = ((wrap64 ((ji13) + 5)) : Int).toNat - ((ji13) : Int).toNat := (by rw [Ny232.out, List.length_drop, List.length_take] <;> omega)
                   rw [show ((t225).take ((wrap64 ((ji13) + 5)) : Int).toNat).drop ((ji13) : Int).toNat = y232 from Ny232.out.symm] at hr34
                   replace hr34 : Kd.C Kd.bool _ A34 y232.length y232 := (by rw [hA34]; exact hr34)
                   rw [← hy34, ← hA34, ← hc34] at hcut34
                   have HR235 := Aside0.mk hr34
                   have HC235 := Aside0.mk (show y232.length ≤ c34 from by rw [hy34, hc34]; exact Nat.sub_le_sub_right (Nat.le_trans (by omega) hroom34) _)
                   clear hr34 hC34 hroom34 hi034 hsz34 hc34
                   have KY34 := Aside0.mk hy34
                   have KA34 := Aside0.mk hA34
                   clear hy34 hA34
                   have KL34 := Aside0.mk (show ((wrap64 ((ji13) + 5)) : Int).toNat ≤ t225.length from by omega)
                   have KM34 := Aside0.mk (show ((ji13) : Int).toNat ≤ ((wrap64 ((ji13) + 5)) : Int).toNat from by omega)
                   replace q34 := eq_true q34
                   go_wp2_with (first | ((with_reducible refine gate_callee (f := 8) rfl ?_); refine goesL_ (some 70) rfl rfl Try.func8 (by kernel_rfl) rfl #[.int .u8 a0] rfl mapx ?_; (with_reducible refine (barscanlaw47_word.calls a0 true _ A18.out).mono ?_); rintro e w' ⟨rfl, ⟨nd, rfl⟩⟩; refine ⟨_, rfl, ?_⟩; have p237 : 0 ≤ (0 : Int) := (by omega); have q237 : 0 < (y232.length : Int) := of_decide_eq_true (by first | (with_reducible assumption) | assumption); obtain ⟨ad237, e237, hx237_0⟩ := Kd.at_bool (by repeat (first | (with_reducible exact HR235.out) | (with_reducible refine Kd.C_alloc ?_ _) | (with_reducible refine Kd.C_drewN ?_ _) | (with_reducible refine Kd.C_drew ?_) | exact HR235.out)) 0 p237 q237; (try rw [← Nbq21.out] at hx237_0); (try rw [← Nbq26.out] at hx237_0); (try rw [← Nbq31.out] at hx237_0); cases e237; have qi237 : (0 < y232.length) = True := eq_true (by omega); (try rw [show ((0 : Int)).toNat = 0 from rfl] at hx237_0); (try rw [Addr.add_zero'] at hx237_0); replace p237 := eq_true p237; replace q237 := eq_true q237; have p238 : 0 ≤ (1 : Int) := (by omega); have q238 : 1 < (y232.length : Int) := of_decide_eq_true (by first | (with_reducible assumption) | assumption); obtain ⟨ad238, e238, hx238_0⟩ := Kd.at_bool (by repeat (first | (with_reducible exact HR235.out) | (with_reducible refine Kd.C_alloc ?_ _) | (with_reducible refine Kd.C_drewN ?_ _) | (with_reducible refine Kd.C_drew ?_) | exact HR235.out)) 1 p238 q238; (try rw [← Nbq21.out] at hx238_0); (try rw [← Nbq26.out] at hx238_0); (try rw [← Nbq31.out] at hx238_0); obtain rfl : ad237 = ad238 := (by injection e238); (try simp only [show (1 : Int).toNat = 1 from rfl, Nat.reduceMul, Nat.reduceEqDiff, Go.Addr.add, ↓reduceIte] at hx238_0); have qi238 : (1 < y232.length) = True := eq_true (by omega); (try rw [show ((1 : Int)).toNat = 1 from rfl] at hx238_0); replace p238 := eq_true p238; replace q238 := eq_true q238; have p239 : 0 ≤ (2 : Int) := (by omega); have q239 : 2 < (y232.length : Int) := of_decide_eq_true (by first | (with_reducible assumption) | assumption); obtain ⟨ad239, e239, hx239_0⟩ := Kd.at_bool (by repeat (first | (with_reducible exact HR235.out) | (with_reducible refine Kd.C_alloc ?_ _) | (with_reducible refine Kd.C_drewN ?_ _) | (with_reducible refine Kd.C_drew ?_) | exact HR235.out)) 2 p239 q239; (try rw [← Nbq21.out] at hx239_0); (try rw [← Nbq26.out] at hx239_0); (try rw [← Nbq31.out] at hx239_0); obtain rfl : ad237 = ad239 := (by injection e239); (try simp only [show (2 : Int).toNat = 2 from rfl, Nat.reduceMul, Nat.reduceEqDiff, Go.Addr.add, ↓reduceIte] at hx239_0); have qi239 : (2 < y232.length) = True := eq_true (by omega); (try rw [show ((2 : Int)).toNat = 2 from rfl] at hx239_0); replace p239 := eq_true p239; replace q239 := eq_true q239))
                   go_roundg k1
                   case measure => have := HK1.out; omega
                   case rel => exact ⟨(true), (wrap64 (x52_1 + 1)), (by first | rfl | (simp; done) | (simp [*]; done)), (by first | rfl | (simp; done) | (simp [*]; done)), H', ⟨by have := HK1.out; omega⟩, ⟨rkx HO_230002⟩, ⟨bkx BK229⟩, ⟨hb1 HB GE229⟩⟩
                  ·replace c32 := Bool.eq_false_iff.mpr c32
                   subst c32
                   have H1 : (if 3 < (y232.length : Int) then (if rdOf false y232 3 = true then (barscanlaw47_FontShapes.l0 k1 a0 a1 true (wrap64 (x52_1 + 1)) t223 t224 t225) else (if 4 < (y232.length : Int) then (if rdOf false y232 4 = true then (barscanlaw47_FontShapes.l0 k1 a0 a1 true (wrap64 (x52_1 + 1)) t223 t224 t225) else (none)) else (none))) else (none)) = some r := by rw [if_neg (show ¬ (false = true) by decide)] at H; exact H
                   clear H
                   have H := H1
                   clear H1
                   by_cases c35 : 3 < (y232.length : Int)
                   ·rw [if_pos c35] at H
                    have c35b0 : decide (3 < (y232.length : Int)) = true := decide_eq_true c35
                    have c35b1 : decide (3 < y232.length) = true := decide_eq_true (by omega)
                    clear c35
                    obtain ⟨bq36, hbq36⟩ : ∃ b_ : Bool, b_ = (rdOf false y232 3) := ⟨_, rfl⟩
                    replace H : (if bq36 = true then (barscanlaw47_FontShapes.l0 k1 a0 a1 true (wrap64 (x52_1 + 1)) t223 t224 t225) else (if 4 < (y232.length : Int) then (if rdOf false y232 4 = true then (barscanlaw47_FontShapes.l0 k1 a0 a1 true (wrap64 (x52_1 + 1)) t223 t224 t225) else (none)) else (none))) = some r := by rw [← hbq36] at H; exact H
                    have Nbq36 := Aside0.mk hbq36
                    clear hbq36
                    by_cases c37 : bq36 = true
                    ·subst c37
                     have H1 : (barscanlaw47_FontShapes.l0 k1 a0 a1 true (wrap64 (x52_1 + 1)) t223 t224 t225) = some r := by rw [if_pos rfl] at H; exact H
                     clear H
                     have H := H1
                     clear H1
                     have H' := Aside0.mk H
                     clear H
                     have hcz38_0 : wr.cell? ⟨gb229, 0, none⟩ = some (.int .i64 t223) := (blk_cell BK229.out 0).trans rfl
                     have hcz38_1 : wr.cell? ⟨gb229, 1, none⟩ = some (.int .i64 t224) := (blk_cell BK229.out 1).trans rfl
                     have hcz38_2 : wr.cell? ⟨gb229, 2, none⟩ = some (.slice Ao11 t225.length co11) := (blk_cell BK229.out 2).trans rfl
                     have hfz38_0 := blk_frozen BK229.out 0
                     have hfz38_1 := blk_frozen BK229.out 1
                     have hfz38_2 := blk_frozen BK229.out 2
                     have q39 : ((wrap64 ((ji13) + 5)) : Int) ≤ ((t225.length : Int) : Int) := of_decide_eq_true (by first | (with_reducible assumption) | assumption)
                     obtain ⟨i039, hi039, _, hsz39, _⟩ := info_parts info4
                     have hroom39 : t225.length ≤ co11 := (Kd.R_reads' HO_230002.out).2.1
                     have hC39 : Kd.C Kd.bool _ Ao11 t225.length t225 := (Kd.R_reads' HO_230002.out).2.2
                     have ql39 : ((ji13) : Int) ≤ ((wrap64 ((ji13) + 5)) : Int) := of_decide_eq_true (by first | (with_reducible assumption) | assumption)
                     have q039 : (0 : Int) ≤ ((ji13) : Int) := of_decide_eq_true (by first | (with_reducible assumption) | assumption)
                     have hcut39 := cut_mid (P := Try.prog) 22 4 .i64 .i64 Try.underlying22 hi039 1 hsz39 Ao11 t225.length co11 (ji13) (wrap64 ((ji13) + 5)) q039 ql39 q39 hroom39
                     have hr39 := Kd.C_mid (lo := ((ji13) : Int).toNat) (hi := ((wrap64 ((ji13) + 5)) : Int).toNat) (c := co11) hC39 (by omega) (by omega) hroom39
                     obtain ⟨A39, hA39⟩ : ∃ A1, A1 = (if co11 = ((ji13) : Int).toNat then Ao11 else (Ao11 : Option Addr).map (·.add (((ji13) : Int).toNat * 1))) := ⟨_, rfl⟩
                     obtain ⟨c39, hc39⟩ : ∃ c1, c1 = co11 - ((ji13) : Int).toNat := ⟨_, rfl⟩
                     have hy39 : y232.length = ((wrap64 ((ji13) + 5)) : Int).toNat - ((ji13) : Int).toNat := (by rw [Ny232.out, List.length_drop, List.length_take] <;> omega)
                     rw [show ((t225).take ((wrap64 ((ji13) + 5)) : Int).toNat).drop ((ji13) : Int).toNat = y232 from Ny232.out.symm] at hr39
                     replace hr39 : Kd.C Kd.bool _ A39 y232.length y232 := (by rw [hA39]; exact hr39)
                     rw [← hy39, ← hA39, ← hc39] at hcut39
                     have HR235 := Aside0.mk hr39
                     have HC235 := Aside0.mk (show y232.length ≤ c39 from by rw [hy39, hc39]; exact Nat.sub_le_sub_right (Nat.le_trans (by omega) hroom39) _)
                     clear hr39 hC39 hroom39 hi039 hsz39 hc39
                     have KY39 := Aside0.mk hy39
                     have KA39 := Aside0.mk hA39
                     clear hy39 hA39
                     have KL39 := Aside0.mk (show ((wrap64 ((ji13) + 5)) : Int).toNat ≤ t225.length from by omega)
                     have KM39 := Aside0.mk (show ((ji13) : Int).toNat ≤ ((wrap64 ((ji13) + 5)) : Int).toNat from by omega)
                     replace q39 := eq_true q39
                     go_wp2_with (first | ((with_reducible refine gate_callee (f := 8) rfl ?_); refine goesL_ (some 70) rfl rfl Try.func8 (by kernel_rfl) rfl #[.int .u8 a0] rfl mapx ?_; (with_reducible refine (barscanlaw47_word.calls a0 true _ A18.out).mono ?_); rintro e w' ⟨rfl, ⟨nd, rfl⟩⟩; refine ⟨_, rfl, ?_⟩; have p237 : 0 ≤ (0 : Int) := (by omega); have q237 : 0 < (y232.length : Int) := of_decide_eq_true (by first | (with_reducible assumption) | assumption); obtain ⟨ad237, e237, hx237_0⟩ := Kd.at_bool (by repeat (first | (with_reducible exact HR235.out) | (with_reducible refine Kd.C_alloc ?_ _) | (with_reducible refine Kd.C_drewN ?_ _) | (with_reducible refine Kd.C_drew ?_) | exact HR235.out)) 0 p237 q237; (try rw [← Nbq21.out] at hx237_0); (try rw [← Nbq26.out] at hx237_0); (try rw [← Nbq31.out] at hx237_0); (try rw [← Nbq36.out] at hx237_0); cases e237; have qi237 : (0 < y232.length) = True := eq_true (by omega); (try rw [show ((0 : Int)).toNat = 0 from rfl] at hx237_0); (try rw [Addr.add_zero'] at hx237_0); replace p237 := eq_true p237; replace q237 := eq_true q237; have p238 : 0 ≤ (1 : Int) := (by omega); have q238 : 1 < (y232.length : Int) := of_decide_eq_true (by first | (with_reducible assumption) | assumption); obtain ⟨ad238, e238, hx238_0⟩ := Kd.at_bool (by repeat (first | (with_reducible exact HR235.out) | (with_reducible refine Kd.C_alloc ?_ _) | (with_reducible refine Kd.C_drewN ?_ _) | (with_reducible refine Kd.C_drew ?_) | exact HR235.out)) 1 p238 q238; (try rw [← Nbq21.out] at hx238_0); (try rw [← Nbq26.out] at hx238_0); (try rw [← Nbq31.out] at hx238_0); (try rw [← Nbq36.out] at hx238_0); obtain rfl : ad237 = ad238 := (by injection e238); (try simp only [show (1 : Int).toNat = 1 from rfl, Nat.reduceMul, Nat.reduceEqDiff, Go.Addr.add, ↓reduceIte] at hx238_0); have qi238 : (1 < y232.length) = True := eq_true (by omega); (try rw [show ((1 : Int)).toNat = 1 from rfl] at hx238_0); replace p238 := eq_true p238; replace q238 := eq_true q238; have p239 : 0 ≤ (2 : Int) := (by omega); have q239 : 2 < (y232.length : Int) := of_decide_eq_true (by first | (with_reducible assumption) | assumption); obtain ⟨ad239, e239, hx239_0⟩ := Kd.at_bool (by repeat (first | (with_reducible exact HR235.out) | (with_reducible refine Kd.C_alloc ?_ _) | (with_reducible refine Kd.C_drewN ?_ _) | (with_reducible refine Kd.C_drew ?_) | exact HR235.out)) 2 p239 q239; (try rw [← Nbq21.out] at hx239_0); (try rw [← Nbq26.out] at hx239_0); (try rw [← Nbq31.out] at hx239_0); (try rw [← Nbq36.out] at hx239_0); obtain rfl : ad237 = ad239 := (by injection e239); (try simp only [show (2 : Int).toNat = 2 from rfl, Nat.reduceMul, Nat.reduceEqDiff, Go.Addr.add, ↓reduceIte] at hx239_0); have qi239 : (2 < y232.length) = True := eq_true (by omega); (try rw [show ((2 : Int)).toNat = 2 from rfl] at hx239_0); replace p239 := eq_true p239; replace q239 := eq_true q239; have p240 : 0 ≤ (3 : Int) := (by omega); have q240 : 3 < (y232.length : Int) := of_decide_eq_true (by first | (with_reducible assumption) | assumption); obtain ⟨ad240, e240, hx240_0⟩ := Kd.at_bool (by repeat (first | (with_reducible exact HR235.out) | (with_reducible refine Kd.C_alloc ?_ _) | (with_reducible refine Kd.C_drewN ?_ _) | (with_reducible refine Kd.C_drew ?_) | exact HR235.out)) 3 p240 q240; (try rw [← Nbq21.out] at hx240_0); (try rw [← Nbq26.out] at hx240_0); (try rw [← Nbq31.out] at hx240_0); (try rw [← Nbq36.out] at hx240_0); obtain rfl : ad237 = ad240 := (by injection e240); (try simp only [show (3 : Int).toNat = 3 from rfl, Nat.reduceMul, Nat.reduceEqDiff, Go.Addr.add, ↓reduceIte] at hx240_0); have qi240 : (3 < y232.length) = True := eq_true (by omega); (try rw [show ((3 : Int)).toNat = 3 from rfl] at hx240_0); replace p240 := eq_true p240; replace q240 := eq_true q240))
                     go_roundg k1
                     case measure => have := HK1.out; omega
                     case rel => exact ⟨(true), (wrap64 (x52_1 + 1)), (by first | rfl | (simp; done) | (simp [*]; done)), (by first | rfl | (simp; done) | (simp [*]; done)), H', ⟨by have := HK1.out; omega⟩, ⟨rkx HO_230002⟩, ⟨bkx BK229⟩, ⟨hb1 HB GE229⟩⟩
                    ·replace c37 := Bool.eq_false_iff.mpr c37
                     subst c37
                     have H1 : (if 4 < (y232.length : Int) then (if rdOf false y232 4 = true then (barscanlaw47_FontShapes.l0 k1 a0 a1 true (wrap64 (x52_1 + 1)) t223 t224 t225) else (none)) else (none)) = some r := by rw [if_neg (show ¬ (false = true) by decide)] at H; exact H
                     clear H
                     have H := H1
                     clear H1
                     by_cases c40 : 4 < (y232.length : Int)
                     ·rw [if_pos c40] at H
                      have c40b0 : decide (4 < (y232.length : Int)) = true := decide_eq_true c40
                      have c40b1 : decide (4 < y232.length) = true := decide_eq_true (by omega)
                      clear c40
                      obtain ⟨bq41, hbq41⟩ : ∃ b_ : Bool, b_ = (rdOf false y232 4) := ⟨_, rfl⟩
                      replace H : (if bq41 = true then (barscanlaw47_FontShapes.l0 k1 a0 a1 true (wrap64 (x52_1 + 1)) t223 t224 t225) else (none)) = some r := by rw [← hbq41] at H; exact H
                      have Nbq41 := Aside0.mk hbq41
                      clear hbq41
                      by_cases c42 : bq41 = true
                      ·subst c42
                       have H1 : (barscanlaw47_FontShapes.l0 k1 a0 a1 true (wrap64 (x52_1 + 1)) t223 t224 t225) = some r := by rw [if_pos rfl] at H; exact H
                       clear H
                       have H := H1
                       clear H1
                       have H' := Aside0.mk H
                       clear H
                       have hcz43_0 : wr.cell? ⟨gb229, 0, none⟩ = some (.int .i64 t223) := (blk_cell BK229.out 0).trans rfl
                       have hcz43_1 : wr.cell? ⟨gb229, 1, none⟩ = some (.int .i64 t224) := (blk_cell BK229.out 1).trans rfl
                       have hcz43_2 : wr.cell? ⟨gb229, 2, none⟩ = some (.slice Ao11 t225.length co11) := (blk_cell BK229.out 2).trans rfl
                       have hfz43_0 := blk_frozen BK229.out 0
                       have hfz43_1 := blk_frozen BK229.out 1
                       have hfz43_2 := blk_frozen BK229.out 2
                       have q44 : ((wrap64 ((ji13) + 5)) : Int) ≤ ((t225.length : Int) : Int) := of_decide_eq_true (by first | (with_reducible assumption) | assumption)
                       obtain ⟨i044, hi044, _, hsz44, _⟩ := info_parts info4
                       have hroom44 : t225.length ≤ co11 := (Kd.R_reads' HO_230002.out).2.1
                       have hC44 : Kd.C Kd.bool _ Ao11 t225.length t225 := (Kd.R_reads' HO_230002.out).2.2
                       have ql44 : ((ji13) : Int) ≤ ((wrap64 ((ji13) + 5)) : Int) := of_decide_eq_true (by first | (with_reducible assumption) | assumption)
                       have q044 : (0 : Int) ≤ ((ji13) : Int) := of_decide_eq_true (by first | (with_reducible assumption) | assumption)
                       have hcut44 := cut_mid (P := Try.prog) 22 4 .i64 .i64 Try.underlying22 hi044 1 hsz44 Ao11 t225.length co11 (ji13) (wrap64 ((ji13) + 5)) q044 ql44 q44 hroom44
                       have hr44 := Kd.C_mid (lo := ((ji13) : Int).toNat) (hi := ((wrap64 ((ji13) + 5)) : Int).toNat) (c := co11) hC44 (by omega) (by omega) hroom44
                       obtain ⟨A44, hA44⟩ : ∃ A1, A1 = (if co11 = ((ji13) : Int).toNat then Ao11 else (Ao11 : Option Addr).map (·.add (((ji13) : Int).toNat * 1))) := ⟨_, rfl⟩
                       obtain ⟨c44, hc44⟩ : ∃ c1, c1 = co11 - ((ji13) : Int).toNat := ⟨_, rfl⟩
                       have hy44 : y232.length = ((wrap64 ((ji13) + 5)) : Int).toNat - ((ji13) : Int).toNat := (by rw [Ny232.out, List.length_drop, List.length_take] <;> omega)
                       rw [show ((t225).take ((wrap64 ((ji13) + 5)) : Int).toNat).drop ((ji13) : Int).toNat = y232 from Ny232.out.symm] at hr44
                       replace hr44 : Kd.C Kd.bool _ A44 y232.length y232 := (by rw [hA44]; exact hr44)
                       rw [← hy44, ← hA44, ← hc44] at hcut44
                       have HR235 := Aside0.mk hr44
                       have HC235 := Aside0.mk (show y232.length ≤ c44 from by rw [hy44, hc44]; exact Nat.sub_le_sub_right (Nat.le_trans (by omega) hroom44) _)
                       clear hr44 hC44 hroom44 hi044 hsz44 hc44
                       have KY44 := Aside0.mk hy44
                       have KA44 := Aside0.mk hA44
                       clear hy44 hA44
                       have KL44 := Aside0.mk (show ((wrap64 ((ji13) + 5)) : Int).toNat ≤ t225.length from by omega)
                       have KM44 := Aside0.mk (show ((ji13) : Int).toNat ≤ ((wrap64 ((ji13) + 5)) : Int).toNat from by omega)
                       replace q44 := eq_true q44
                       go_wp2_with (first | ((with_reducible refine gate_callee (f := 8) rfl ?_); refine goesL_ (some 70) rfl rfl Try.func8 (by kernel_rfl) rfl #[.int .u8 a0] rfl mapx ?_; (with_reducible refine (barscanlaw47_word.calls a0 true _ A18.out).mono ?_); rintro e w' ⟨rfl, ⟨nd, rfl⟩⟩; refine ⟨_, rfl, ?_⟩; have p237 : 0 ≤ (0 : Int) := (by omega); have q237 : 0 < (y232.length : Int) := of_decide_eq_true (by first | (with_reducible assumption) | assumption); obtain ⟨ad237, e237, hx237_0⟩ := Kd.at_bool (by repeat (first | (with_reducible exact HR235.out) | (with_reducible refine Kd.C_alloc ?_ _) | (with_reducible refine Kd.C_drewN ?_ _) | (with_reducible refine Kd.C_drew ?_) | exact HR235.out)) 0 p237 q237; (try rw [← Nbq21.out] at hx237_0); (try rw [← Nbq26.out] at hx237_0); (try rw [← Nbq31.out] at hx237_0); (try rw [← Nbq36.out] at hx237_0); (try rw [← Nbq41.out] at hx237_0); cases e237; have qi237 : (0 < y232.length) = True := eq_true (by omega); (try rw [show ((0 : Int)).toNat = 0 from rfl] at hx237_0); (try rw [Addr.add_zero'] at hx237_0); replace p237 := eq_true p237; replace q237 := eq_true q237; have p238 : 0 ≤ (1 : Int) := (by omega); have q238 : 1 < (y232.length : Int) := of_decide_eq_true (by first | (with_reducible assumption) | assumption); obtain ⟨ad238, e238, hx238_0⟩ := Kd.at_bool (by repeat (first | (with_reducible exact HR235.out) | (with_reducible refine Kd.C_alloc ?_ _) | (with_reducible refine Kd.C_drewN ?_ _) | (with_reducible refine Kd.C_drew ?_) | exact HR235.out)) 1 p238 q238; (try rw [← Nbq21.out] at hx238_0); (try rw [← Nbq26.out] at hx238_0); (try rw [← Nbq31.out] at hx238_0); (try rw [← Nbq36.out] at hx238_0); (try rw [← Nbq41.out] at hx238_0); obtain rfl : ad237 = ad238 := (by injection e238); (try simp only [show (1 : Int).toNat = 1 from rfl, Nat.reduceMul, Nat.reduceEqDiff, Go.Addr.add, ↓reduceIte] at hx238_0); have qi238 : (1 < y232.length) = True := eq_true (by omega); (try rw [show ((1 : Int)).toNat = 1 from rfl] at hx238_0); replace p238 := eq_true p238; replace q238 := eq_true q238; have p239 : 0 ≤ (2 : Int) := (by omega); have q239 : 2 < (y232.length : Int) := of_decide_eq_true (by first | (with_reducible assumption) | assumption); obtain ⟨ad239, e239, hx239_0⟩ := Kd.at_bool (by repeat (first | (with_reducible exact HR235.out) | (with_reducible refine Kd.C_alloc ?_ _) | (with_reducible refine Kd.C_drewN ?_ _) | (with_reducible refine Kd.C_drew ?_) | exact HR235.out)) 2 p239 q239; (try rw [← Nbq21.out] at hx239_0); (try rw [← Nbq26.out] at hx239_0); (try rw [← Nbq31.out] at hx239_0); (try rw [← Nbq36.out] at hx239_0); (try rw [← Nbq41.out] at hx239_0); obtain rfl : ad237 = ad239 := (by injection e239); (try simp only [show (2 : Int).toNat = 2 from rfl, Nat.reduceMul, Nat.reduceEqDiff, Go.Addr.add, ↓reduceIte] at hx239_0); have qi239 : (2 < y232.length) = True := eq_true (by omega); (try rw [show ((2 : Int)).toNat = 2 from rfl] at hx239_0); replace p239 := eq_true p239; replace q239 := eq_true q239; have p240 : 0 ≤ (3 : Int) := (by omega); have q240 : 3 < (y232.length : Int) := of_decide_eq_true (by first | (with_reducible assumption) | assumption); obtain ⟨ad240, e240, hx240_0⟩ := Kd.at_bool (by repeat (first | (with_reducible exact HR235.out) | (with_reducible refine Kd.C_alloc ?_ _) | (with_reducible refine Kd.C_drewN ?_ _) | (with_reducible refine Kd.C_drew ?_) | exact HR235.out)) 3 p240 q240; (try rw [← Nbq21.out] at hx240_0); (try rw [← Nbq26.out] at hx240_0); (try rw [← Nbq31.out] at hx240_0); (try rw [← Nbq36.out] at hx240_0); (try rw [← Nbq41.out] at hx240_0); obtain rfl : ad237 = ad240 := (by injection e240); (try simp only [show (3 : Int).toNat = 3 from rfl, Nat.reduceMul, Nat.reduceEqDiff, Go.Addr.add, ↓reduceIte] at hx240_0); have qi240 : (3 < y232.length) = True := eq_true (by omega); (try rw [show ((3 : Int)).toNat = 3 from rfl] at hx240_0); replace p240 := eq_true p240; replace q240 := eq_true q240; have p241 : 0 ≤ (4 : Int) := (by omega); have q241 : 4 < (y232.length : Int) := of_decide_eq_true (by first | (with_reducible assumption) | assumption); obtain ⟨ad241, e241, hx241_0⟩ := Kd.at_bool (by repeat (first | (with_reducible exact HR235.out) | (with_reducible refine Kd.C_alloc ?_ _) | (with_reducible refine Kd.C_drewN ?_ _) | (with_reducible refine Kd.C_drew ?_) | exact HR235.out)) 4 p241 q241; (try rw [← Nbq21.out] at hx241_0); (try rw [← Nbq26.out] at hx241_0); (try rw [← Nbq31.out] at hx241_0); (try rw [← Nbq36.out] at hx241_0); (try rw [← Nbq41.out] at hx241_0); obtain rfl : ad237 = ad241 := (by injection e241); (try simp only [show (4 : Int).toNat = 4 from rfl, Nat.reduceMul, Nat.reduceEqDiff, Go.Addr.add, ↓reduceIte] at hx241_0); have qi241 : (4 < y232.length) = True := eq_true (by omega); (try rw [show ((4 : Int)).toNat = 4 from rfl] at hx241_0); replace p241 := eq_true p241; replace q241 := eq_true q241))
                       go_roundg k1
                       case measure => have := HK1.out; omega
                       case rel => exact ⟨(true), (wrap64 (x52_1 + 1)), (by first | rfl | (simp; done) | (simp [*]; done)), (by first | rfl | (simp; done) | (simp [*]; done)), H', ⟨by have := HK1.out; omega⟩, ⟨rkx HO_230002⟩, ⟨bkx BK229⟩, ⟨hb1 HB GE229⟩⟩
                      ·replace c42 := Bool.eq_false_iff.mpr c42
                       subst c42
                       have H1 : (none) = some r := by rw [if_neg (show ¬ (false = true) by decide)] at H; exact H
                       clear H
                       have H := H1
                       clear H1
                       exact absurd H (by simp)
                     ·rw [if_neg c40] at H
                      exact absurd H (by simp)
                   ·rw [if_neg c35] at H
                    exact absurd H (by simp)
                 ·rw [if_neg c30] at H
                  exact absurd H (by simp)
               ·rw [if_neg c25] at H
                exact absurd H (by simp)
             ·rw [if_neg c20] at H
              exact absurd H (by simp)
            ·replace c19 := Bool.eq_false_iff.mpr c19
             subst c19
             have H1 : (barscanlaw47_FontShapes.l0 k1 a0 a1 true (wrap64 (x52_1 + 1)) t223 t224 t225) = some r := by rw [if_neg (show ¬ (false = true) by decide)] at H; exact H
             clear H
             have H := H1
             clear H1
             have H' := Aside0.mk H
             clear H
             have hcz45_0 : wr.cell? ⟨gb229, 0, none⟩ = some (.int .i64 t223) := (blk_cell BK229.out 0).trans rfl
             have hcz45_1 : wr.cell? ⟨gb229, 1, none⟩ = some (.int .i64 t224) := (blk_cell BK229.out 1).trans rfl
             have hcz45_2 : wr.cell? ⟨gb229, 2, none⟩ = some (.slice Ao11 t225.length co11) := (blk_cell BK229.out 2).trans rfl
             have hfz45_0 := blk_frozen BK229.out 0
             have hfz45_1 := blk_frozen BK229.out 1
             have hfz45_2 := blk_frozen BK229.out 2
             have q46 : ((wrap64 ((ji13) + 5)) : Int) ≤ ((t225.length : Int) : Int) := of_decide_eq_true (by first | (with_reducible assumption) | assumption)
             obtain ⟨i046, hi046, _, hsz46, _⟩ := info_parts info4
             have hroom46 : t225.length ≤ co11 := (Kd.R_reads' HO_230002.out).2.1
             have hC46 : Kd.C Kd.bool _ Ao11 t225.length t225 := (Kd.R_reads' HO_230002.out).2.2
             have ql46 : ((ji13) : Int) ≤ ((wrap64 ((ji13) + 5)) : Int) := of_decide_eq_true (by first | (with_reducible assumption) | assumption)
             have q046 : (0 : Int) ≤ ((ji13) : Int) := of_decide_eq_true (by first | (with_reducible assumption) | assumption)
             have hcut46 := cut_mid (P := Try.prog) 22 4 .i64 .i64 Try.underlying22 hi046 1 hsz46 Ao11 t225.length co11 (ji13) (wrap64 ((ji13) + 5)) q046 ql46 q46 hroom46
             have hr46 := Kd.C_mid (lo := ((ji13) : Int).toNat) (hi := ((wrap64 ((ji13) + 5)) : Int).toNat) (c := co11) hC46 (by omega) (by omega) hroom46
             obtain ⟨A46, hA46⟩ : ∃ A1, A1 = (if co11 = ((ji13) : Int).toNat then Ao11 else (Ao11 : Option Addr).map (·.add (((ji13) : Int).toNat * 1))) := ⟨_, rfl⟩
             obtain ⟨c46, hc46⟩ : ∃ c1, c1 = co11 - ((ji13) : Int).toNat := ⟨_, rfl⟩
             have hy46 : y232.length = ((wrap64 ((ji13) + 5)) : Int).toNat - ((ji13) : Int).toNat := (by rw [Ny232.out, List.length_drop, List.length_take] <;> omega)
             rw [show ((t225).take ((wrap64 ((ji13) + 5)) : Int).toNat).drop ((ji13) : Int).toNat = y232 from Ny232.out.symm] at hr46
             replace hr46 : Kd.C Kd.bool _ A46 y232.length y232 := (by rw [hA46]; exact hr46)
             rw [← hy46, ← hA46, ← hc46] at hcut46
             have HR235 := Aside0.mk hr46
             have HC235 := Aside0.mk (show y232.length ≤ c46 from by rw [hy46, hc46]; exact Nat.sub_le_sub_right (Nat.le_trans (by omega) hroom46) _)
             clear hr46 hC46 hroom46 hi046 hsz46 hc46
             have KY46 := Aside0.mk hy46
             have KA46 := Aside0.mk hA46
             clear hy46 hA46
             have KL46 := Aside0.mk (show ((wrap64 ((ji13) + 5)) : Int).toNat ≤ t225.length from by omega)
             have KM46 := Aside0.mk (show ((ji13) : Int).toNat ≤ ((wrap64 ((ji13) + 5)) : Int).toNat from by omega)
             replace q46 := eq_true q46
             go_wp2_with (first | ((with_reducible refine gate_callee (f := 8) rfl ?_); refine goesL_ (some 70) rfl rfl Try.func8 (by kernel_rfl) rfl #[.int .u8 a0] rfl mapx ?_; (with_reducible refine (barscanlaw47_word.calls a0 false _ A18.out).mono ?_); rintro e w' ⟨rfl, ⟨nd, rfl⟩⟩; refine ⟨_, rfl, ?_⟩))
             go_roundg k1
             case measure => have := HK1.out; omega
             case rel => exact ⟨(true), (wrap64 (x52_1 + 1)), (by first | rfl | (simp; done) | (simp [*]; done)), (by first | rfl | (simp; done) | (simp [*]; done)), H', ⟨by have := HK1.out; omega⟩, ⟨rkx HO_230002⟩, ⟨bkx BK229⟩, ⟨hb1 HB GE229⟩⟩
           ·replace c17 := Bool.eq_false_iff.mpr c17
            subst c17
            have H1 : (if 0 < (y232.length : Int) then ((barscanlaw47_word.f a0).bind fun t243 => (if t243 = true then (if rdOf false y232 0 = true then (barscanlaw47_FontShapes.l0 k1 a0 a1 (rdOf false y232 0) (wrap64 (x52_1 + 1)) t223 t224 t225) else (if 1 < (y232.length : Int) then (if rdOf false y232 1 = true then (barscanlaw47_FontShapes.l0 k1 a0 a1 (rdOf false y232 0) (wrap64 (x52_1 + 1)) t223 t224 t225) else (if 2 < (y232.length : Int) then (if rdOf false y232 2 = true then (barscanlaw47_FontShapes.l0 k1 a0 a1 (rdOf false y232 0) (wrap64 (x52_1 + 1)) t223 t224 t225) else (if 3 < (y232.length : Int) then (if rdOf false y232 3 = true then (barscanlaw47_FontShapes.l0 k1 a0 a1 (rdOf false y232 0) (wrap64 (x52_1 + 1)) t223 t224 t225) else (if 4 < (y232.length : Int) then (if rdOf false y232 4 = true then (barscanlaw47_FontShapes.l0 k1 a0 a1 (rdOf false y232 0) (wrap64 (x52_1 + 1)) t223 t224 t225) else (none)) else (none))) else (none))) else (none))) else (none))) else (barscanlaw47_FontShapes.l0 k1 a0 a1 (rdOf false y232 0) (wrap64 (x52_1 + 1)) t223 t224 t225))) else (none)) = some r := by rw [if_neg (show ¬ (false = true) by decide)] at H; exact H
            clear H
            have H := H1
            clear H1
            by_cases c47 : 0 < (y232.length : Int)
            ·rw [if_pos c47] at H
             have c47b0 : decide (0 < (y232.length : Int)) = true := decide_eq_true c47
             have c47b1 : decide (0 < y232.length) = true := decide_eq_true (by omega)
             clear c47
             replace H := Option.bind_eq_some_iff.mp H
             obtain ⟨t243, A480, H⟩ := H
             replace H : (if t243 = true then (if rdOf false y232 0 = true then (barscanlaw47_FontShapes.l0 k1 a0 a1 (rdOf false y232 0) (wrap64 (x52_1 + 1)) t223 t224 t225) else (if 1 < (y232.length : Int) then (if rdOf false y232 1 = true then (barscanlaw47_FontShapes.l0 k1 a0 a1 (rdOf false y232 0) (wrap64 (x52_1 + 1)) t223 t224 t225) else (if 2 < (y232.length : Int) then (if rdOf false y232 2 = true then (barscanlaw47_FontShapes.l0 k1 a0 a1 (rdOf false y232 0) (wrap64 (x52_1 + 1)) t223 t224 t225) else (if 3 < (y232.length : Int) then (if rdOf false y232 3 = true then (barscanlaw47_FontShapes.l0 k1 a0 a1 (rdOf false y232 0) (wrap64 (x52_1 + 1)) t223 t224 t225) else (if 4 < (y232.length : Int) then (if rdOf false y232 4 = true then (barscanlaw47_FontShapes.l0 k1 a0 a1 (rdOf false y232 0) (wrap64 (x52_1 + 1)) t223 t224 t225) else (none)) else (none))) else (none))) else (none))) else (none))) else (barscanlaw47_FontShapes.l0 k1 a0 a1 (rdOf false y232 0) (wrap64 (x52_1 + 1)) t223 t224 t225)) = some r := H
             have A48 := Aside0.mk A480
             clear A480
             by_cases c49 : t243 = true
             ·subst c49
              have H1 : (if rdOf false y232 0 = true then (barscanlaw47_FontShapes.l0 k1 a0 a1 (rdOf false y232 0) (wrap64 (x52_1 + 1)) t223 t224 t225) else (if 1 < (y232.length : Int) then (if rdOf false y232 1 = true then (barscanlaw47_FontShapes.l0 k1 a0 a1 (rdOf false y232 0) (wrap64 (x52_1 + 1)) t223 t224 t225) else (if 2 < (y232.length : Int) then (if rdOf false y232 2 = true then (barscanlaw47_FontShapes.l0 k1 a0 a1 (rdOf false y232 0) (wrap64 (x52_1 + 1)) t223 t224 t225) else (if 3 < (y232.length : Int) then (if rdOf false y232 3 = true then (barscanlaw47_FontShapes.l0 k1 a0 a1 (rdOf false y232 0) (wrap64 (x52_1 + 1)) t223 t224 t225) else (if 4 < (y232.length : Int) then (if rdOf false y232 4 = true then (barscanlaw47_FontShapes.l0 k1 a0 a1 (rdOf false y232 0) (wrap64 (x52_1 + 1)) t223 t224 t225) else (none)) else (none))) else (none))) else (none))) else (none))) = some r := by rw [if_pos rfl] at H; exact H
              clear H
              have H := H1
              clear H1
              obtain ⟨bq50, hbq50⟩ : ∃ b_ : Bool, b_ = (rdOf false y232 0) := ⟨_, rfl⟩
              replace H : (if bq50 = true then (barscanlaw47_FontShapes.l0 k1 a0 a1 bq50 (wrap64 (x52_1 + 1)) t223 t224 t225) else (if 1 < (y232.length : Int) then (if rdOf false y232 1 = true then (barscanlaw47_FontShapes.l0 k1 a0 a1 bq50 (wrap64 (x52_1 + 1)) t223 t224 t225) else (if 2 < (y232.length : Int) then (if rdOf false y232 2 = true then (barscanlaw47_FontShapes.l0 k1 a0 a1 bq50 (wrap64 (x52_1 + 1)) t223 t224 t225) else (if 3 < (y232.length : Int) then (if rdOf false y232 3 = true then (barscanlaw47_FontShapes.l0 k1 a0 a1 bq50 (wrap64 (x52_1 + 1)) t223 t224 t225) else (if 4 < (y232.length : Int) then (if rdOf false y232 4 = true then (barscanlaw47_FontShapes.l0 k1 a0 a1 bq50 (wrap64 (x52_1 + 1)) t223 t224 t225) else (none)) else (none))) else (none))) else (none))) else (none))) = some r := by rw [← hbq50] at H; exact H
              have Nbq50 := Aside0.mk hbq50
              clear hbq50
              by_cases c51 : bq50 = true
              ·subst c51
               have H1 : (barscanlaw47_FontShapes.l0 k1 a0 a1 true (wrap64 (x52_1 + 1)) t223 t224 t225) = some r := by rw [if_pos rfl] at H; exact H
               clear H
               have H := H1
               clear H1
               have H' := Aside0.mk H
               clear H
               have hcz52_0 : wr.cell? ⟨gb229, 0, none⟩ = some (.int .i64 t223) := (blk_cell BK229.out 0).trans rfl
               have hcz52_1 : wr.cell? ⟨gb229, 1, none⟩ = some (.int .i64 t224) := (blk_cell BK229.out 1).trans rfl
               have hcz52_2 : wr.cell? ⟨gb229, 2, none⟩ = some (.slice Ao11 t225.length co11) := (blk_cell BK229.out 2).trans rfl
               have hfz52_0 := blk_frozen BK229.out 0
               have hfz52_1 := blk_frozen BK229.out 1
               have hfz52_2 := blk_frozen BK229.out 2
               have q53 : ((wrap64 ((ji13) + 5)) : Int) ≤ ((t225.length : Int) : Int) := of_decide_eq_true (by first | (with_reducible assumption) | assumption)
               obtain ⟨i053, hi053, _, hsz53, _⟩ := info_parts info4
               have hroom53 : t225.length ≤ co11 := (Kd.R_reads' HO_230002.out).2.1
               have hC53 : Kd.C Kd.bool _ Ao11 t225.length t225 := (Kd.R_reads' HO_230002.out).2.2
               have ql53 : ((ji13) : Int) ≤ ((wrap64 ((ji13) + 5)) : Int) := of_decide_eq_true (by first | (with_reducible assumption) | assumption)
               have q053 : (0 : Int) ≤ ((ji13) : Int) := of_decide_eq_true (by first | (with_reducible assumption) | assumption)
               have hcut53 := cut_mid (P := Try.prog) 22 4 .i64 .i64 Try.underlying22 hi053 1 hsz53 Ao11 t225.length co11 (ji13) (wrap64 ((ji13) + 5)) q053 ql53 q53 hroom53
               have hr53 := Kd.C_mid (lo := ((ji13) : Int).toNat) (hi := ((wrap64 ((ji13) + 5)) : Int).toNat) (c := co11) hC53 (by omega) (by omega) hroom53
               obtain ⟨A53, hA53⟩ : ∃ A1, A1 = (if co11 = ((ji13) : Int).toNat then Ao11 else (Ao11 : Option Addr).map (·.add (((ji13) : Int).toNat * 1))) := ⟨_, rfl⟩
               obtain ⟨c53, hc53⟩ : ∃ c1, c1 = co11 - ((ji13) : Int).toNat := ⟨_, rfl⟩
               have hy53 : y232.length = ((wrap64 ((ji13) + 5)) : Int).toNat - ((ji13) : Int).toNat := (by rw [Ny232.out, List.length_drop, List.length_take] <;> omega)
               rw [show ((t225).take ((wrap64 ((ji13) + 5)) : Int).toNat).drop ((ji13) : Int).toNat = y232 from Ny232.out.symm] at hr53
               replace hr53 : Kd.C Kd.bool _ A53 y232.length y232 := (by rw [hA53]; exact hr53)
               rw [← hy53, ← hA53, ← hc53] at hcut53
               have HR235 := Aside0.mk hr53
               have HC235 := Aside0.mk (show y232.length ≤ c53 from by rw [hy53, hc53]; exact Nat.sub_le_sub_right (Nat.le_trans (by omega) hroom53) _)
               clear hr53 hC53 hroom53 hi053 hsz53 hc53
               have KY53 := Aside0.mk hy53
               have KA53 := Aside0.mk hA53
               clear hy53 hA53
               have KL53 := Aside0.mk (show ((wrap64 ((ji13) + 5)) : Int).toNat ≤ t225.length from by omega)
               have KM53 := Aside0.mk (show ((ji13) : Int).toNat ≤ ((wrap64 ((ji13) + 5)) : Int).toNat from by omega)
               replace q53 := eq_true q53
               have p242 : 0 ≤ (0 : Int) := (by omega)
               have q242 : 0 < (y232.length : Int) := of_decide_eq_true (by first | (with_reducible assumption) | assumption)
               obtain ⟨ad242, e242, hx242_0⟩ := Kd.at_bool (by repeat (first | (with_reducible exact HR235.out) | (with_reducible refine Kd.C_alloc ?_ _) | (with_reducible refine Kd.C_drewN ?_ _) | (with_reducible refine Kd.C_drew ?_) | exact HR235.out)) 0 p242 q242
               (try rw [← Nbq50.out] at hx242_0)
               cases e242
               have qi242 : (0 < y232.length) = True := eq_true (by omega)
               (try rw [show ((0 : Int)).toNat = 0 from rfl] at hx242_0)
               (try rw [Addr.add_zero'] at hx242_0)
               replace p242 := eq_true p242
               replace q242 := eq_true q242
               go_wp2_with (first | ((with_reducible refine gate_callee (f := 8) rfl ?_); refine goesL_ (some 70) rfl rfl Try.func8 (by kernel_rfl) rfl #[.int .u8 a0] rfl mapx ?_; (with_reducible refine (barscanlaw47_word.calls a0 true _ A48.out).mono ?_); rintro e w' ⟨rfl, ⟨nd, rfl⟩⟩; refine ⟨_, rfl, ?_⟩; have p244 : 0 ≤ (0 : Int) := (by omega); have q244 : 0 < (y232.length : Int) := of_decide_eq_true (by first | (with_reducible assumption) | assumption); obtain ⟨ad244, e244, hx244_0⟩ := Kd.at_bool (by repeat (first | (with_reducible exact HR235.out) | (with_reducible refine Kd.C_alloc ?_ _) | (with_reducible refine Kd.C_drewN ?_ _) | (with_reducible refine Kd.C_drew ?_) | exact HR235.out)) 0 p244 q244; (try rw [← Nbq50.out] at hx244_0); obtain rfl : ad242 = ad244 := (by injection e244); have qi244 : (0 < y232.length) = True := eq_true (by omega); (try rw [show ((0 : Int)).toNat = 0 from rfl] at hx244_0); (try rw [Addr.add_zero'] at hx244_0); replace p244 := eq_true p244; replace q244 := eq_true q244))
               go_roundg k1
               case measure => have := HK1.out; omega
               case rel => exact ⟨(true), (wrap64 (x52_1 + 1)), (by first | rfl | (simp; done) | (simp [*]; done)), (by first | rfl | (simp; done) | (simp [*]; done)), H', ⟨by have := HK1.out; omega⟩, ⟨rkx HO_230002⟩, ⟨bkx BK229⟩, ⟨hb1 HB GE229⟩⟩
              ·replace c51 := Bool.eq_false_iff.mpr c51
               subst c51
               have H1 : (if 1 < (y232.length : Int) then (if rdOf false y232 1 = true then (barscanlaw47_FontShapes.l0 k1 a0 a1 false (wrap64 (x52_1 + 1)) t223 t224 t225) else (if 2 < (y232.length : Int) then (if rdOf false y232 2 = true then (barscanlaw47_FontShapes.l0 k1 a0 a1 false (wrap64 (x52_1 + 1)) t223 t224 t225) else (if 3 < (y232.length : Int) then (if rdOf false y232 3 = true then (barscanlaw47_FontShapes.l0 k1 a0 a1 false (wrap64 (x52_1 + 1)) t223 t224 t225) else (if 4 < (y232.length : Int) then (if rdOf false y232 4 = true then (barscanlaw47_FontShapes.l0 k1 a0 a1 false (wrap64 (x52_1 + 1)) t223 t224 t225) else (none)) else (none))) else (none))) else (none))) else (none)) = some r := by rw [if_neg (show ¬ (false = true) by decide)] at H; exact H
               clear H
               have H := H1
               clear H1
               by_cases c54 : 1 < (y232.length : Int)
               ·rw [if_pos c54] at H
                have c54b0 : decide (1 < (y232.length : Int)) = true := decide_eq_true c54
                have c54b1 : decide (1 < y232.length) = true := decide_eq_true (by omega)
                clear c54
                obtain ⟨bq55, hbq55⟩ : ∃ b_ : Bool, b_ = (rdOf false y232 1) := ⟨_, rfl⟩
                replace H : (if bq55 = true then (barscanlaw47_FontShapes.l0 k1 a0 a1 false (wrap64 (x52_1 + 1)) t223 t224 t225) else (if 2 < (y232.length : Int) then (if rdOf false y232 2 = true then (barscanlaw47_FontShapes.l0 k1 a0 a1 false (wrap64 (x52_1 + 1)) t223 t224 t225) else (if 3 < (y232.length : Int) then (if rdOf false y232 3 = true then (barscanlaw47_FontShapes.l0 k1 a0 a1 false (wrap64 (x52_1 + 1)) t223 t224 t225) else (if 4 < (y232.length : Int) then (if rdOf false y232 4 = true then (barscanlaw47_FontShapes.l0 k1 a0 a1 false (wrap64 (x52_1 + 1)) t223 t224 t225) else (none)) else (none))) else (none))) else (none))) = some r := by rw [← hbq55] at H; exact H
                have Nbq55 := Aside0.mk hbq55
                clear hbq55
                by_cases c56 : bq55 = true
                ·subst c56
                 have H1 : (barscanlaw47_FontShapes.l0 k1 a0 a1 false (wrap64 (x52_1 + 1)) t223 t224 t225) = some r := by rw [if_pos rfl] at H; exact H
                 clear H
                 have H := H1
                 clear H1
                 have H' := Aside0.mk H
                 clear H
                 have hcz57_0 : wr.cell? ⟨gb229, 0, none⟩ = some (.int .i64 t223) := (blk_cell BK229.out 0).trans rfl
                 have hcz57_1 : wr.cell? ⟨gb229, 1, none⟩ = some (.int .i64 t224) := (blk_cell BK229.out 1).trans rfl
                 have hcz57_2 : wr.cell? ⟨gb229, 2, none⟩ = some (.slice Ao11 t225.length co11) := (blk_cell BK229.out 2).trans rfl
                 have hfz57_0 := blk_frozen BK229.out 0
                 have hfz57_1 := blk_frozen BK229.out 1
                 have hfz57_2 := blk_frozen BK229.out 2
                 have q58 : ((wrap64 ((ji13) + 5)) : Int) ≤ ((t225.length : Int) : Int) := of_decide_eq_true (by first | (with_reducible assumption) | assumption)
                 obtain ⟨i058, hi058, _, hsz58, _⟩ := info_parts info4
                 have hroom58 : t225.length ≤ co11 := (Kd.R_reads' HO_230002.out).2.1
                 have hC58 : Kd.C Kd.bool _ Ao11 t225.length t225 := (Kd.R_reads' HO_230002.out).2.2
                 have ql58 : ((ji13) : Int) ≤ ((wrap64 ((ji13) + 5)) : Int) := of_decide_eq_true (by first | (with_reducible assumption) | assumption)
                 have q058 : (0 : Int) ≤ ((ji13) : Int) := of_decide_eq_true (by first | (with_reducible assumption) | assumption)
                 have hcut58 := cut_mid (P := Try.prog) 22 4 .i64 .i64 Try.underlying22 hi058 1 hsz58 Ao11 t225.length co11 (ji13) (wrap64 ((ji13) + 5)) q058 ql58 q58 hroom58
                 have hr58 := Kd.C_mid (lo := ((ji13) : Int).toNat) (hi := ((wrap64 ((ji13) + 5)) : Int).toNat) (c := co11) hC58 (by omega) (by omega) hroom58
                 obtain ⟨A58, hA58⟩ : ∃ A1, A1 = (if co11 = ((ji13) : Int).toNat then Ao11 else (Ao11 : Option Addr).map (·.add (((ji13) : Int).toNat * 1))) := ⟨_, rfl⟩
                 obtain ⟨c58, hc58⟩ : ∃ c1, c1 = co11 - ((ji13) : Int).toNat := ⟨_, rfl⟩
                 have hy58 : y232.length = ((wrap64 ((ji13) + 5)) : Int).toNat - ((ji13) : Int).toNat := (by rw [Ny232.out, List.length_drop, List.length_take] <;> omega)
                 rw [show ((t225).take ((wrap64 ((ji13) + 5)) : Int).toNat).drop ((ji13) : Int).toNat = y232 from Ny232.out.symm] at hr58
                 replace hr58 : Kd.C Kd.bool _ A58 y232.length y232 := (by rw [hA58]; exact hr58)
                 rw [← hy58, ← hA58, ← hc58] at hcut58
                 have HR235 := Aside0.mk hr58
                 have HC235 := Aside0.mk (show y232.length ≤ c58 from by rw [hy58, hc58]; exact Nat.sub_le_sub_right (Nat.le_trans (by omega) hroom58) _)
                 clear hr58 hC58 hroom58 hi058 hsz58 hc58
                 have KY58 := Aside0.mk hy58
                 have KA58 := Aside0.mk hA58
                 clear hy58 hA58
                 have KL58 := Aside0.mk (show ((wrap64 ((ji13) + 5)) : Int).toNat ≤ t225.length from by omega)
                 have KM58 := Aside0.mk (show ((ji13) : Int).toNat ≤ ((wrap64 ((ji13) + 5)) : Int).toNat from by omega)
                 replace q58 := eq_true q58
                 have p242 : 0 ≤ (0 : Int) := (by omega)
                 have q242 : 0 < (y232.length : Int) := of_decide_eq_true (by first | (with_reducible assumption) | assumption)
                 obtain ⟨ad242, e242, hx242_0⟩ := Kd.at_bool (by repeat (first | (with_reducible exact HR235.out) | (with_reducible refine Kd.C_alloc ?_ _) | (with_reducible refine Kd.C_drewN ?_ _) | (with_reducible refine Kd.C_drew ?_) | exact HR235.out)) 0 p242 q242
                 (try rw [← Nbq50.out] at hx242_0)
                 (try rw [← Nbq55.out] at hx242_0)
                 cases e242
                 have qi242 : (0 < y232.length) = True := eq_true (by omega)
                 (try rw [show ((0 : Int)).toNat = 0 from rfl] at hx242_0)
                 (try rw [Addr.add_zero'] at hx242_0)
                 replace p242 := eq_true p242
                 replace q242 := eq_true q242
                 go_wp2_with (first | ((with_reducible refine gate_callee (f := 8) rfl ?_); refine goesL_ (some 70) rfl rfl Try.func8 (by kernel_rfl) rfl #[.int .u8 a0] rfl mapx ?_; (with_reducible refine (barscanlaw47_word.calls a0 true _ A48.out).mono ?_); rintro e w' ⟨rfl, ⟨nd, rfl⟩⟩; refine ⟨_, rfl, ?_⟩; have p244 : 0 ≤ (0 : Int) := (by omega); have q244 : 0 < (y232.length : Int) := of_decide_eq_true (by first | (with_reducible assumption) | assumption); obtain ⟨ad244, e244, hx244_0⟩ := Kd.at_bool (by repeat (first | (with_reducible exact HR235.out) | (with_reducible refine Kd.C_alloc ?_ _) | (with_reducible refine Kd.C_drewN ?_ _) | (with_reducible refine Kd.C_drew ?_) | exact HR235.out)) 0 p244 q244; (try rw [← Nbq50.out] at hx244_0); (try rw [← Nbq55.out] at hx244_0); obtain rfl : ad242 = ad244 := (by injection e244); have qi244 : (0 < y232.length) = True := eq_true (by omega); (try rw [show ((0 : Int)).toNat = 0 from rfl] at hx244_0); (try rw [Addr.add_zero'] at hx244_0); replace p244 := eq_true p244; replace q244 := eq_true q244; have p245 : 0 ≤ (1 : Int) := (by omega); have q245 : 1 < (y232.length : Int) := of_decide_eq_true (by first | (with_reducible assumption) | assumption); obtain ⟨ad245, e245, hx245_0⟩ := Kd.at_bool (by repeat (first | (with_reducible exact HR235.out) | (with_reducible refine Kd.C_alloc ?_ _) | (with_reducible refine Kd.C_drewN ?_ _) | (with_reducible refine Kd.C_drew ?_) | exact HR235.out)) 1 p245 q245; (try rw [← Nbq50.out] at hx245_0); (try rw [← Nbq55.out] at hx245_0); obtain rfl : ad242 = ad245 := (by injection e245); (try simp only [show (1 : Int).toNat = 1 from rfl, Nat.reduceMul, Nat.reduceEqDiff, Go.Addr.add, ↓reduceIte] at hx245_0); have qi245 : (1 < y232.length) = True := eq_true (by omega); (try rw [show ((1 : Int)).toNat = 1 from rfl] at hx245_0); replace p245 := eq_true p245; replace q245 := eq_true q245))
                 go_roundg k1
                 case measure => have := HK1.out; omega
                 case rel => exact ⟨(false), (wrap64 (x52_1 + 1)), (by first | rfl | (simp; done) | (simp [*]; done)), (by first | rfl | (simp; done) | (simp [*]; done)), H', ⟨by have := HK1.out; omega⟩, ⟨rkx HO_230002⟩, ⟨bkx BK229⟩, ⟨hb1 HB GE229⟩⟩
                ·replace c56 := Bool.eq_false_iff.mpr c56
                 subst c56
                 have H1 : (if 2 < (y232.length : Int) then (if rdOf false y232 2 = true then (barscanlaw47_FontShapes.l0 k1 a0 a1 false (wrap64 (x52_1 + 1)) t223 t224 t225) else (if 3 < (y232.length : Int) then (if rdOf false y232 3 = true then (barscanlaw47_FontShapes.l0 k1 a0 a1 false (wrap64 (x52_1 + 1)) t223 t224 t225) else (if 4 < (y232.length : Int) then (if rdOf false y232 4 = true then (barscanlaw47_FontShapes.l0 k1 a0 a1 false (wrap64 (x52_1 + 1)) t223 t224 t225) else (none)) else (none))) else (none))) else (none)) = some r := by rw [if_neg (show ¬ (false = true) by decide)] at H; exact H
                 clear H
                 have H := H1
                 clear H1
                 by_cases c59 : 2 < (y232.length : Int)
                 ·rw [if_pos c59] at H
                  have c59b0 : decide (2 < (y232.length : Int)) = true := decide_eq_true c59
                  have c59b1 : decide (2 < y232.length) = true := decide_eq_true (by omega)
                  clear c59
                  obtain ⟨bq60, hbq60⟩ : ∃ b_ : Bool, b_ = (rdOf false y232 2) := ⟨_, rfl⟩
                  replace H : (if bq60 = true then (barscanlaw47_FontShapes.l0 k1 a0 a1 false (wrap64 (x52_1 + 1)) t223 t224 t225) else (if 3 < (y232.length : Int) then (if rdOf false y232 3 = true then (barscanlaw47_FontShapes.l0 k1 a0 a1 false (wrap64 (x52_1 + 1)) t223 t224 t225) else (if 4 < (y232.length : Int) then (if rdOf false y232 4 = true then (barscanlaw47_FontShapes.l0 k1 a0 a1 false (wrap64 (x52_1 + 1)) t223 t224 t225) else (none)) else (none))) else (none))) = some r := by rw [← hbq60] at H; exact H
                  have Nbq60 := Aside0.mk hbq60
                  clear hbq60
                  by_cases c61 : bq60 = true
                  ·subst c61
                   have H1 : (barscanlaw47_FontShapes.l0 k1 a0 a1 false (wrap64 (x52_1 + 1)) t223 t224 t225) = some r := by rw [if_pos rfl] at H; exact H
                   clear H
                   have H := H1
                   clear H1
                   have H' := Aside0.mk H
                   clear H
                   have hcz62_0 : wr.cell? ⟨gb229, 0, none⟩ = some (.int .i64 t223) := (blk_cell BK229.out 0).trans rfl
                   have hcz62_1 : wr.cell? ⟨gb229, 1, none⟩ = some (.int .i64 t224) := (blk_cell BK229.out 1).trans rfl
                   have hcz62_2 : wr.cell? ⟨gb229, 2, none⟩ = some (.slice Ao11 t225.length co11) := (blk_cell BK229.out 2).trans rfl
                   have hfz62_0 := blk_frozen BK229.out 0
                   have hfz62_1 := blk_frozen BK229.out 1
                   have hfz62_2 := blk_frozen BK229.out 2
                   have q63 : ((wrap64 ((ji13) + 5)) : Int) ≤ ((t225.length : Int) : Int) := of_decide_eq_true (by first | (with_reducible assumption) | assumption)
                   obtain ⟨i063, hi063, _, hsz63, _⟩ := info_parts info4
                   have hroom63 : t225.length ≤ co11 := (Kd.R_reads' HO_230002.out).2.1
                   have hC63 : Kd.C Kd.bool _ Ao11 t225.length t225 := (Kd.R_reads' HO_230002.out).2.2
                   have ql63 : ((ji13) : Int) ≤ ((wrap64 ((ji13) + 5)) : Int) := of_decide_eq_true (by first | (with_reducible assumption) | assumption)
                   have q063 : (0 : Int) ≤ ((ji13) : Int) := of_decide_eq_true (by first | (with_reducible assumption) | assumption)
                   have hcut63 := cut_mid (P := Try.prog) 22 4 .i64 .i64 Try.underlying22 hi063 1 hsz63 Ao11 t225.length co11 (ji13) (wrap64 ((ji13) + 5)) q063 ql63 q63 hroom63
                   have hr63 := Kd.C_mid (lo := ((ji13) : Int).toNat) (hi := ((wrap64 ((ji13) + 5)) : Int).toNat) (c := co11) hC63 (by omega) (by omega) hroom63
                   obtain ⟨A63, hA63⟩ : ∃ A1, A1 = (if co11 = ((ji13) : Int).toNat then Ao11 else (Ao11 : Option Addr).map (·.add (((ji13) : Int).toNat * 1))) := ⟨_, rfl⟩
                   obtain ⟨c63, hc63⟩ : ∃ c1, c1 = co11 - ((ji13) : Int).toNat := ⟨_, rfl⟩
                   have hy63 : y232.length = ((wrap64 ((ji13) + 5)) : Int).toNat - ((ji13) : Int).toNat := (by rw [Ny232.out, List.length_drop, List.length_take] <;> omega)
                   rw [show ((t225).take ((wrap64 ((ji13) + 5)) : Int).toNat).drop ((ji13) : Int).toNat = y232 from Ny232.out.symm] at hr63
                   replace hr63 : Kd.C Kd.bool _ A63 y232.length y232 := (by rw [hA63]; exact hr63)
                   rw [← hy63, ← hA63, ← hc63] at hcut63
                   have HR235 := Aside0.mk hr63
                   have HC235 := Aside0.mk (show y232.length ≤ c63 from by rw [hy63, hc63]; exact Nat.sub_le_sub_right (Nat.le_trans (by omega) hroom63) _)
                   clear hr63 hC63 hroom63 hi063 hsz63 hc63
                   have KY63 := Aside0.mk hy63
                   have KA63 := Aside0.mk hA63
                   clear hy63 hA63
                   have KL63 := Aside0.mk (show ((wrap64 ((ji13) + 5)) : Int).toNat ≤ t225.length from by omega)
                   have KM63 := Aside0.mk (show ((ji13) : Int).toNat ≤ ((wrap64 ((ji13) + 5)) : Int).toNat from by omega)
                   replace q63 := eq_true q63
                   have p242 : 0 ≤ (0 : Int) := (by omega)
                   have q242 : 0 < (y232.length : Int) := of_decide_eq_true (by first | (with_reducible assumption) | assumption)
                   obtain ⟨ad242, e242, hx242_0⟩ := Kd.at_bool (by repeat (first | (with_reducible exact HR235.out) | (with_reducible refine Kd.C_alloc ?_ _) | (with_reducible refine Kd.C_drewN ?_ _) | (with_reducible refine Kd.C_drew ?_) | exact HR235.out)) 0 p242 q242
                   (try rw [← Nbq50.out] at hx242_0)
                   (try rw [← Nbq55.out] at hx242_0)
                   (try rw [← Nbq60.out] at hx242_0)
                   cases e242
                   have qi242 : (0 < y232.length) = True := eq_true (by omega)
                   (try rw [show ((0 : Int)).toNat = 0 from rfl] at hx242_0)
                   (try rw [Addr.add_zero'] at hx242_0)
                   replace p242 := eq_true p242
                   replace q242 := eq_true q242
                   go_wp2_with (first | ((with_reducible refine gate_callee (f := 8) rfl ?_); refine goesL_ (some 70) rfl rfl Try.func8 (by kernel_rfl) rfl #[.int .u8 a0] rfl mapx ?_; (with_reducible refine (barscanlaw47_word.calls a0 true _ A48.out).mono ?_); rintro e w' ⟨rfl, ⟨nd, rfl⟩⟩; refine ⟨_, rfl, ?_⟩; have p244 : 0 ≤ (0 : Int) := (by omega); have q244 : 0 < (y232.length : Int) := of_decide_eq_true (by first | (with_reducible assumption) | assumption); obtain ⟨ad244, e244, hx244_0⟩ := Kd.at_bool (by repeat (first | (with_reducible exact HR235.out) | (with_reducible refine Kd.C_alloc ?_ _) | (with_reducible refine Kd.C_drewN ?_ _) | (with_reducible refine Kd.C_drew ?_) | exact HR235.out)) 0 p244 q244; (try rw [← Nbq50.out] at hx244_0); (try rw [← Nbq55.out] at hx244_0); (try rw [← Nbq60.out] at hx244_0); obtain rfl : ad242 = ad244 := (by injection e244); have qi244 : (0 < y232.length) = True := eq_true (by omega); (try rw [show ((0 : Int)).toNat = 0 from rfl] at hx244_0); (try rw [Addr.add_zero'] at hx244_0); replace p244 := eq_true p244; replace q244 := eq_true q244; have p245 : 0 ≤ (1 : Int) := (by omega); have q245 : 1 < (y232.length : Int) := of_decide_eq_true (by first | (with_reducible assumption) | assumption); obtain ⟨ad245, e245, hx245_0⟩ := Kd.at_bool (by repeat (first | (with_reducible exact HR235.out) | (with_reducible refine Kd.C_alloc ?_ _) | (with_reducible refine Kd.C_drewN ?_ _) | (with_reducible refine Kd.C_drew ?_) | exact HR235.out)) 1 p245 q245; (try rw [← Nbq50.out] at hx245_0); (try rw [← Nbq55.out] at hx245_0); (try rw [← Nbq60.out] at hx245_0); obtain rfl : ad242 = ad245 := (by injection e245); (try simp only [show (1 : Int).toNat = 1 from rfl, Nat.reduceMul, Nat.reduceEqDiff, Go.Addr.add, ↓reduceIte] at hx245_0); have qi245 : (1 < y232.length) = True := eq_true (by omega); (try rw [show ((1 : Int)).toNat = 1 from rfl] at hx245_0); replace p245 := eq_true p245; replace q245 := eq_true q245; have p246 : 0 ≤ (2 : Int) := (by omega); have q246 : 2 < (y232.length : Int) := of_decide_eq_true (by first | (with_reducible assumption) | assumption); obtain ⟨ad246, e246, hx246_0⟩ := Kd.at_bool (by repeat (first | (with_reducible exact HR235.out) | (with_reducible refine Kd.C_alloc ?_ _) | (with_reducible refine Kd.C_drewN ?_ _) | (with_reducible refine Kd.C_drew ?_) | exact HR235.out)) 2 p246 q246; (try rw [← Nbq50.out] at hx246_0); (try rw [← Nbq55.out] at hx246_0); (try rw [← Nbq60.out] at hx246_0); obtain rfl : ad242 = ad246 := (by injection e246); (try simp only [show (2 : Int).toNat = 2 from rfl, Nat.reduceMul, Nat.reduceEqDiff, Go.Addr.add, ↓reduceIte] at hx246_0); have qi246 : (2 < y232.length) = True := eq_true (by omega); (try rw [show ((2 : Int)).toNat = 2 from rfl] at hx246_0); replace p246 := eq_true p246; replace q246 := eq_true q246))
                   go_roundg k1
                   case measure => have := HK1.out; omega
                   case rel => exact ⟨(false), (wrap64 (x52_1 + 1)), (by first | rfl | (simp; done) | (simp [*]; done)), (by first | rfl | (simp; done) | (simp [*]; done)), H', ⟨by have := HK1.out; omega⟩, ⟨rkx HO_230002⟩, ⟨bkx BK229⟩, ⟨hb1 HB GE229⟩⟩
                  ·replace c61 := Bool.eq_false_iff.mpr c61
                   subst c61
                   have H1 : (if 3 < (y232.length : Int) then (if rdOf false y232 3 = true then (barscanlaw47_FontShapes.l0 k1 a0 a1 false (wrap64 (x52_1 + 1)) t223 t224 t225) else (if 4 < (y232.length : Int) then (if rdOf false y232 4 = true then (barscanlaw47_FontShapes.l0 k1 a0 a1 false (wrap64 (x52_1 + 1)) t223 t224 t225) else (none)) else (none))) else (none)) = some r := by rw [if_neg (show ¬ (false = true) by decide)] at H; exact H
                   clear H
                   have H := H1
                   clear H1
                   by_cases c64 : 3 < (y232.length : Int)
                   ·rw [if_pos c64] at H
                    have c64b0 : decide (3 < (y232.length : Int)) = true := decide_eq_true c64
                    have c64b1 : decide (3 < y232.length) = true := decide_eq_true (by omega)
                    clear c64
                    obtain ⟨bq65, hbq65⟩ : ∃ b_ : Bool, b_ = (rdOf false y232 3) := ⟨_, rfl⟩
                    replace H : (if bq65 = true then (barscanlaw47_FontShapes.l0 k1 a0 a1 false (wrap64 (x52_1 + 1)) t223 t224 t225) else (if 4 < (y232.length : Int) then (if rdOf false y232 4 = true then (barscanlaw47_FontShapes.l0 k1 a0 a1 false (wrap64 (x52_1 + 1)) t223 t224 t225) else (none)) else (none))) = some r := by rw [← hbq65] at H; exact H
                    have Nbq65 := Aside0.mk hbq65
                    clear hbq65
                    by_cases c66 : bq65 = true
                    ·subst c66
                     have H1 : (barscanlaw47_FontShapes.l0 k1 a0 a1 false (wrap64 (x52_1 + 1)) t223 t224 t225) = some r := by rw [if_pos rfl] at H; exact H
                     clear H
                     have H := H1
                     clear H1
                     have H' := Aside0.mk H
                     clear H
                     have hcz67_0 : wr.cell? ⟨gb229, 0, none⟩ = some (.int .i64 t223) := (blk_cell BK229.out 0).trans rfl
                     have hcz67_1 : wr.cell? ⟨gb229, 1, none⟩ = some (.int .i64 t224) := (blk_cell BK229.out 1).trans rfl
                     have hcz67_2 : wr.cell? ⟨gb229, 2, none⟩ = some (.slice Ao11 t225.length co11) := (blk_cell BK229.out 2).trans rfl
                     have hfz67_0 := blk_frozen BK229.out 0
                     have hfz67_1 := blk_frozen BK229.out 1
                     have hfz67_2 := blk_frozen BK229.out 2
                     have q68 : ((wrap64 ((ji13) + 5)) : Int) ≤ ((t225.length : Int) : Int) := of_decide_eq_true (by first | (with_reducible assumption) | assumption)
                     obtain ⟨i068, hi068, _, hsz68, _⟩ := info_parts info4
                     have hroom68 : t225.length ≤ co11 := (Kd.R_reads' HO_230002.out).2.1
                     have hC68 : Kd.C Kd.bool _ Ao11 t225.length t225 := (Kd.R_reads' HO_230002.out).2.2
                     have ql68 : ((ji13) : Int) ≤ ((wrap64 ((ji13) + 5)) : Int) := of_decide_eq_true (by first | (with_reducible assumption) | assumption)
                     have q068 : (0 : Int) ≤ ((ji13) : Int) := of_decide_eq_true (by first | (with_reducible assumption) | assumption)
                     have hcut68 := cut_mid (P := Try.prog) 22 4 .i64 .i64 Try.underlying22 hi068 1 hsz68 Ao11 t225.length co11 (ji13) (wrap64 ((ji13) + 5)) q068 ql68 q68 hroom68
                     have hr68 := Kd.C_mid (lo := ((ji13) : Int).toNat) (hi := ((wrap64 ((ji13) + 5)) : Int).toNat) (c := co11) hC68 (by omega) (by omega) hroom68
                     obtain ⟨A68, hA68⟩ : ∃ A1, A1 = (if co11 = ((ji13) : Int).toNat then Ao11 else (Ao11 : Option Addr).map (·.add (((ji13) : Int).toNat * 1))) := ⟨_, rfl⟩
                     obtain ⟨c68, hc68⟩ : ∃ c1, c1 = co11 - ((ji13) : Int).toNat := ⟨_, rfl⟩
                     have hy68 : y232.length = ((wrap64 ((ji13) + 5)) : Int).toNat - ((ji13) : Int).toNat := (by rw [Ny232.out, List.length_drop, List.length_take] <;> omega)
                     rw [show ((t225).take ((wrap64 ((ji13) + 5)) : Int).toNat).drop ((ji13) : Int).toNat = y232 from Ny232.out.symm] at hr68
                     replace hr68 : Kd.C Kd.bool _ A68 y232.length y232 := (by rw [hA68]; exact hr68)
                     rw [← hy68, ← hA68, ← hc68] at hcut68
                     have HR235 := Aside0.mk hr68
                     have HC235 := Aside0.mk (show y232.length ≤ c68 from by rw [hy68, hc68]; exact Nat.sub_le_sub_right (Nat.le_trans (by omega) hroom68) _)
                     clear hr68 hC68 hroom68 hi068 hsz68 hc68
                     have KY68 := Aside0.mk hy68
                     have KA68 := Aside0.mk hA68
                     clear hy68 hA68
                     have KL68 := Aside0.mk (show ((wrap64 ((ji13) + 5)) : Int).toNat ≤ t225.length from by omega)
                     have KM68 := Aside0.mk (show ((ji13) : Int).toNat ≤ ((wrap64 ((ji13) + 5)) : Int).toNat from by omega)
                     replace q68 := eq_true q68
                     have p242 : 0 ≤ (0 : Int) := (by omega)
                     have q242 : 0 < (y232.length : Int) := of_decide_eq_true (by first | (with_reducible assumption) | assumption)
                     obtain ⟨ad242, e242, hx242_0⟩ := Kd.at_bool (by repeat (first | (with_reducible exact HR235.out) | (with_reducible refine Kd.C_alloc ?_ _) | (with_reducible refine Kd.C_drewN ?_ _) | (with_reducible refine Kd.C_drew ?_) | exact HR235.out)) 0 p242 q242
                     (try rw [← Nbq50.out] at hx242_0)
                     (try rw [← Nbq55.out] at hx242_0)
                     (try rw [← Nbq60.out] at hx242_0)
                     (try rw [← Nbq65.out] at hx242_0)
                     cases e242
                     have qi242 : (0 < y232.length) = True := eq_true (by omega)
                     (try rw [show ((0 : Int)).toNat = 0 from rfl] at hx242_0)
                     (try rw [Addr.add_zero'] at hx242_0)
                     replace p242 := eq_true p242
                     replace q242 := eq_true q242
                     go_wp2_with (first | ((with_reducible refine gate_callee (f := 8) rfl ?_); refine goesL_ (some 70) rfl rfl Try.func8 (by kernel_rfl) rfl #[.int .u8 a0] rfl mapx ?_; (with_reducible refine (barscanlaw47_word.calls a0 true _ A48.out).mono ?_); rintro e w' ⟨rfl, ⟨nd, rfl⟩⟩; refine ⟨_, rfl, ?_⟩; have p244 : 0 ≤ (0 : Int) := (by omega); have q244 : 0 < (y232.length : Int) := of_decide_eq_true (by first | (with_reducible assumption) | assumption); obtain ⟨ad244, e244, hx244_0⟩ := Kd.at_bool (by repeat (first | (with_reducible exact HR235.out) | (with_reducible refine Kd.C_alloc ?_ _) | (with_reducible refine Kd.C_drewN ?_ _) | (with_reducible refine Kd.C_drew ?_) | exact HR235.out)) 0 p244 q244; (try rw [← Nbq50.out] at hx244_0); (try rw [← Nbq55.out] at hx244_0); (try rw [← Nbq60.out] at hx244_0); (try rw [← Nbq65.out] at hx244_0); obtain rfl : ad242 = ad244 := (by injection e244); have qi244 : (0 < y232.length) = True := eq_true (by omega); (try rw [show ((0 : Int)).toNat = 0 from rfl] at hx244_0); (try rw [Addr.add_zero'] at hx244_0); replace p244 := eq_true p244; replace q244 := eq_true q244; have p245 : 0 ≤ (1 : Int) := (by omega); have q245 : 1 < (y232.length : Int) := of_decide_eq_true (by first | (with_reducible assumption) | assumption); obtain ⟨ad245, e245, hx245_0⟩ := Kd.at_bool (by repeat (first | (with_reducible exact HR235.out) | (with_reducible refine Kd.C_alloc ?_ _) | (with_reducible refine Kd.C_drewN ?_ _) | (with_reducible refine Kd.C_drew ?_) | exact HR235.out)) 1 p245 q245; (try rw [← Nbq50.out] at hx245_0); (try rw [← Nbq55.out] at hx245_0); (try rw [← Nbq60.out] at hx245_0); (try rw [← Nbq65.out] at hx245_0); obtain rfl : ad242 = ad245 := (by injection e245); (try simp only [show (1 : Int).toNat = 1 from rfl, Nat.reduceMul, Nat.reduceEqDiff, Go.Addr.add, ↓reduceIte] at hx245_0); have qi245 : (1 < y232.length) = True := eq_true (by omega); (try rw [show ((1 : Int)).toNat = 1 from rfl] at hx245_0); replace p245 := eq_true p245; replace q245 := eq_true q245; have p246 : 0 ≤ (2 : Int) := (by omega); have q246 : 2 < (y232.length : Int) := of_decide_eq_true (by first | (with_reducible assumption) | assumption); obtain ⟨ad246, e246, hx246_0⟩ := Kd.at_bool (by repeat (first | (with_reducible exact HR235.out) | (with_reducible refine Kd.C_alloc ?_ _) | (with_reducible refine Kd.C_drewN ?_ _) | (with_reducible refine Kd.C_drew ?_) | exact HR235.out)) 2 p246 q246; (try rw [← Nbq50.out] at hx246_0); (try rw [← Nbq55.out] at hx246_0); (try rw [← Nbq60.out] at hx246_0); (try rw [← Nbq65.out] at hx246_0); obtain rfl : ad242 = ad246 := (by injection e246); (try simp only [show (2 : Int).toNat = 2 from rfl, Nat.reduceMul, Nat.reduceEqDiff, Go.Addr.add, ↓reduceIte] at hx246_0); have qi246 : (2 < y232.length) = True := eq_true (by omega); (try rw [show ((2 : Int)).toNat = 2 from rfl] at hx246_0); replace p246 := eq_true p246; replace q246 := eq_true q246; have p247 : 0 ≤ (3 : Int) := (by omega); have q247 : 3 < (y232.length : Int) := of_decide_eq_true (by first | (with_reducible assumption) | assumption); obtain ⟨ad247, e247, hx247_0⟩ := Kd.at_bool (by repeat (first | (with_reducible exact HR235.out) | (with_reducible refine Kd.C_alloc ?_ _) | (with_reducible refine Kd.C_drewN ?_ _) | (with_reducible refine Kd.C_drew ?_) | exact HR235.out)) 3 p247 q247; (try rw [← Nbq50.out] at hx247_0); (try rw [← Nbq55.out] at hx247_0); (try rw [← Nbq60.out] at hx247_0); (try rw [← Nbq65.out] at hx247_0); obtain rfl : ad242 = ad247 := (by injection e247); (try simp only [show (3 : Int).toNat = 3 from rfl, Nat.reduceMul, Nat.reduceEqDiff, Go.Addr.add, ↓reduceIte] at hx247_0); have qi247 : (3 < y232.length) = True := eq_true (by omega); (try rw [show ((3 : Int)).toNat = 3 from rfl] at hx247_0); replace p247 := eq_true p247; replace q247 := eq_true q247))
                     go_roundg k1
                     case measure => have := HK1.out; omega
                     case rel => exact ⟨(false), (wrap64 (x52_1 + 1)), (by first | rfl | (simp; done) | (simp [*]; done)), (by first | rfl | (simp; done) | (simp [*]; done)), H', ⟨by have := HK1.out; omega⟩, ⟨rkx HO_230002⟩, ⟨bkx BK229⟩, ⟨hb1 HB GE229⟩⟩
                    ·replace c66 := Bool.eq_false_iff.mpr c66
                     subst c66
                     have H1 : (if 4 < (y232.length : Int) then (if rdOf false y232 4 = true then (barscanlaw47_FontShapes.l0 k1 a0 a1 false (wrap64 (x52_1 + 1)) t223 t224 t225) else (none)) else (none)) = some r := by rw [if_neg (show ¬ (false = true) by decide)] at H; exact H
                     clear H
                     have H := H1
                     clear H1
                     by_cases c69 : 4 < (y232.length : Int)
                     ·rw [if_pos c69] at H
                      have c69b0 : decide (4 < (y232.length : Int)) = true := decide_eq_true c69
                      have c69b1 : decide (4 < y232.length) = true := decide_eq_true (by omega)
                      clear c69
                      obtain ⟨bq70, hbq70⟩ : ∃ b_ : Bool, b_ = (rdOf false y232 4) := ⟨_, rfl⟩
                      replace H : (if bq70 = true then (barscanlaw47_FontShapes.l0 k1 a0 a1 false (wrap64 (x52_1 + 1)) t223 t224 t225) else (none)) = some r := by rw [← hbq70] at H; exact H
                      have Nbq70 := Aside0.mk hbq70
                      clear hbq70
                      by_cases c71 : bq70 = true
                      ·subst c71
                       have H1 : (barscanlaw47_FontShapes.l0 k1 a0 a1 false (wrap64 (x52_1 + 1)) t223 t224 t225) = some r := by rw [if_pos rfl] at H; exact H
                       clear H
                       have H := H1
                       clear H1
                       have H' := Aside0.mk H
                       clear H
                       have hcz72_0 : wr.cell? ⟨gb229, 0, none⟩ = some (.int .i64 t223) := (blk_cell BK229.out 0).trans rfl
                       have hcz72_1 : wr.cell? ⟨gb229, 1, none⟩ = some (.int .i64 t224) := (blk_cell BK229.out 1).trans rfl
                       have hcz72_2 : wr.cell? ⟨gb229, 2, none⟩ = some (.slice Ao11 t225.length co11) := (blk_cell BK229.out 2).trans rfl
                       have hfz72_0 := blk_frozen BK229.out 0
                       have hfz72_1 := blk_frozen BK229.out 1
                       have hfz72_2 := blk_frozen BK229.out 2
                       have q73 : ((wrap64 ((ji13) + 5)) : Int) ≤ ((t225.length : Int) : Int) := of_decide_eq_true (by first | (with_reducible assumption) | assumption)
                       obtain ⟨i073, hi073, _, hsz73, _⟩ := info_parts info4
                       have hroom73 : t225.length ≤ co11 := (Kd.R_reads' HO_230002.out).2.1
                       have hC73 : Kd.C Kd.bool _ Ao11 t225.length t225 := (Kd.R_reads' HO_230002.out).2.2
                       have ql73 : ((ji13) : Int) ≤ ((wrap64 ((ji13) + 5)) : Int) := of_decide_eq_true (by first | (with_reducible assumption) | assumption)
                       have q073 : (0 : Int) ≤ ((ji13) : Int) := of_decide_eq_true (by first | (with_reducible assumption) | assumption)
                       have hcut73 := cut_mid (P := Try.prog) 22 4 .i64 .i64 Try.underlying22 hi073 1 hsz73 Ao11 t225.length co11 (ji13) (wrap64 ((ji13) + 5)) q073 ql73 q73 hroom73
                       have hr73 := Kd.C_mid (lo := ((ji13) : Int).toNat) (hi := ((wrap64 ((ji13) + 5)) : Int).toNat) (c := co11) hC73 (by omega) (by omega) hroom73
                       obtain ⟨A73, hA73⟩ : ∃ A1, A1 = (if co11 = ((ji13) : Int).toNat then Ao11 else (Ao11 : Option Addr).map (·.add (((ji13) : Int).toNat * 1))) := ⟨_, rfl⟩
                       obtain ⟨c73, hc73⟩ : ∃ c1, c1 = co11 - ((ji13) : Int).toNat := ⟨_, rfl⟩
                       have hy73 : y232.length = ((wrap64 ((ji13) + 5)) : Int).toNat - ((ji13) : Int).toNat := (by rw [Ny232.out, List.length_drop, List.length_take] <;> omega)
                       rw [show ((t225).take ((wrap64 ((ji13) + 5)) : Int).toNat).drop ((ji13) : Int).toNat = y232 from Ny232.out.symm] at hr73
                       replace hr73 : Kd.C Kd.bool _ A73 y232.length y232 := (by rw [hA73]; exact hr73)
                       rw [← hy73, ← hA73, ← hc73] at hcut73
                       have HR235 := Aside0.mk hr73
                       have HC235 := Aside0.mk (show y232.length ≤ c73 from by rw [hy73, hc73]; exact Nat.sub_le_sub_right (Nat.le_trans (by omega) hroom73) _)
                       clear hr73 hC73 hroom73 hi073 hsz73 hc73
                       have KY73 := Aside0.mk hy73
                       have KA73 := Aside0.mk hA73
                       clear hy73 hA73
                       have KL73 := Aside0.mk (show ((wrap64 ((ji13) + 5)) : Int).toNat ≤ t225.length from by omega)
                       have KM73 := Aside0.mk (show ((ji13) : Int).toNat ≤ ((wrap64 ((ji13) + 5)) : Int).toNat from by omega)
                       replace q73 := eq_true q73
                       have p242 : 0 ≤ (0 : Int) := (by omega)
                       have q242 : 0 < (y232.length : Int) := of_decide_eq_true (by first | (with_reducible assumption) | assumption)
                       obtain ⟨ad242, e242, hx242_0⟩ := Kd.at_bool (by repeat (first | (with_reducible exact HR235.out) | (with_reducible refine Kd.C_alloc ?_ _) | (with_reducible refine Kd.C_drewN ?_ _) | (with_reducible refine Kd.C_drew ?_) | exact HR235.out)) 0 p242 q242
                       (try rw [← Nbq50.out] at hx242_0)
                       (try rw [← Nbq55.out] at hx242_0)
                       (try rw [← Nbq60.out] at hx242_0)
                       (try rw [← Nbq65.out] at hx242_0)
                       (try rw [← Nbq70.out] at hx242_0)
                       cases e242
                       have qi242 : (0 < y232.length) = True := eq_true (by omega)
                       (try rw [show ((0 : Int)).toNat = 0 from rfl] at hx242_0)
                       (try rw [Addr.add_zero'] at hx242_0)
                       replace p242 := eq_true p242
                       replace q242 := eq_true q242
                       go_wp2_with (first | ((with_reducible refine gate_callee (f := 8) rfl ?_); refine goesL_ (some 70) rfl rfl Try.func8 (by kernel_rfl) rfl #[.int .u8 a0] rfl mapx ?_; (with_reducible refine (barscanlaw47_word.calls a0 true _ A48.out).mono ?_); rintro e w' ⟨rfl, ⟨nd, rfl⟩⟩; refine ⟨_, rfl, ?_⟩; have p244 : 0 ≤ (0 : Int) := (by omega); have q244 : 0 < (y232.length : Int) := of_decide_eq_true (by first | (with_reducible assumption) | assumption); obtain ⟨ad244, e244, hx244_0⟩ := Kd.at_bool (by repeat (first | (with_reducible exact HR235.out) | (with_reducible refine Kd.C_alloc ?_ _) | (with_reducible refine Kd.C_drewN ?_ _) | (with_reducible refine Kd.C_drew ?_) | exact HR235.out)) 0 p244 q244; (try rw [← Nbq50.out] at hx244_0); (try rw [← Nbq55.out] at hx244_0); (try rw [← Nbq60.out] at hx244_0); (try rw [← Nbq65.out] at hx244_0); (try rw [← Nbq70.out] at hx244_0); obtain rfl : ad242 = ad244 := (by injection e244); have qi244 : (0 < y232.length) = True := eq_true (by omega); (try rw [show ((0 : Int)).toNat = 0 from rfl] at hx244_0); (try rw [Addr.add_zero'] at hx244_0); replace p244 := eq_true p244; replace q244 := eq_true q244; have p245 : 0 ≤ (1 : Int) := (by omega); have q245 : 1 < (y232.length : Int) := of_decide_eq_true (by first | (with_reducible assumption) | assumption); obtain ⟨ad245, e245, hx245_0⟩ := Kd.at_bool (by repeat (first | (with_reducible exact HR235.out) | (with_reducible refine Kd.C_alloc ?_ _) | (with_reducible refine Kd.C_drewN ?_ _) | (with_reducible refine Kd.C_drew ?_) | exact HR235.out)) 1 p245 q245; (try rw [← Nbq50.out] at hx245_0); (try rw [← Nbq55.out] at hx245_0); (try rw [← Nbq60.out] at hx245_0); (try rw [← Nbq65.out] at hx245_0); (try rw [← Nbq70.out] at hx245_0); obtain rfl : ad242 = ad245 := (by injection e245); (try simp only [show (1 : Int).toNat = 1 from rfl, Nat.reduceMul, Nat.reduceEqDiff, Go.Addr.add, ↓reduceIte] at hx245_0); have qi245 : (1 < y232.length) = True := eq_true (by omega); (try rw [show ((1 : Int)).toNat = 1 from rfl] at hx245_0); replace p245 := eq_true p245; replace q245 := eq_true q245; have p246 : 0 ≤ (2 : Int) := (by omega); have q246 : 2 < (y232.length : Int) := of_decide_eq_true (by first | (with_reducible assumption) | assumption); obtain ⟨ad246, e246, hx246_0⟩ := Kd.at_bool (by repeat (first | (with_reducible exact HR235.out) | (with_reducible refine Kd.C_alloc ?_ _) | (with_reducible refine Kd.C_drewN ?_ _) | (with_reducible refine Kd.C_drew ?_) | exact HR235.out)) 2 p246 q246; (try rw [← Nbq50.out] at hx246_0); (try rw [← Nbq55.out] at hx246_0); (try rw [← Nbq60.out] at hx246_0); (try rw [← Nbq65.out] at hx246_0); (try rw [← Nbq70.out] at hx246_0); obtain rfl : ad242 = ad246 := (by injection e246); (try simp only [show (2 : Int).toNat = 2 from rfl, Nat.reduceMul, Nat.reduceEqDiff, Go.Addr.add, ↓reduceIte] at hx246_0); have qi246 : (2 < y232.length) = True := eq_true (by omega); (try rw [show ((2 : Int)).toNat = 2 from rfl] at hx246_0); replace p246 := eq_true p246; replace q246 := eq_true q246; have p247 : 0 ≤ (3 : Int) := (by omega); have q247 : 3 < (y232.length : Int) := of_decide_eq_true (by first | (with_reducible assumption) | assumption); obtain ⟨ad247, e247, hx247_0⟩ := Kd.at_bool (by repeat (first | (with_reducible exact HR235.out) | (with_reducible refine Kd.C_alloc ?_ _) | (with_reducible refine Kd.C_drewN ?_ _) | (with_reducible refine Kd.C_drew ?_) | exact HR235.out)) 3 p247 q247; (try rw [← Nbq50.out] at hx247_0); (try rw [← Nbq55.out] at hx247_0); (try rw [← Nbq60.out] at hx247_0); (try rw [← Nbq65.out] at hx247_0); (try rw [← Nbq70.out] at hx247_0); obtain rfl : ad242 = ad247 := (by injection e247); (try simp only [show (3 : Int).toNat = 3 from rfl, Nat.reduceMul, Nat.reduceEqDiff, Go.Addr.add, ↓reduceIte] at hx247_0); have qi247 : (3 < y232.length) = True := eq_true (by omega); (try rw [show ((3 : Int)).toNat = 3 from rfl] at hx247_0); replace p247 := eq_true p247; replace q247 := eq_true q247; have p248 : 0 ≤ (4 : Int) := (by omega); have q248 : 4 < (y232.length : Int) := of_decide_eq_true (by first | (with_reducible assumption) | assumption); obtain ⟨ad248, e248, hx248_0⟩ := Kd.at_bool (by repeat (first | (with_reducible exact HR235.out) | (with_reducible refine Kd.C_alloc ?_ _) | (with_reducible refine Kd.C_drewN ?_ _) | (with_reducible refine Kd.C_drew ?_) | exact HR235.out)) 4 p248 q248; (try rw [← Nbq50.out] at hx248_0); (try rw [← Nbq55.out] at hx248_0); (try rw [← Nbq60.out] at hx248_0); (try rw [← Nbq65.out] at hx248_0); (try rw [← Nbq70.out] at hx248_0); obtain rfl : ad242 = ad248 := (by injection e248); (try simp only [show (4 : Int).toNat = 4 from rfl, Nat.reduceMul, Nat.reduceEqDiff, Go.Addr.add, ↓reduceIte] at hx248_0); have qi248 : (4 < y232.length) = True := eq_true (by omega); (try rw [show ((4 : Int)).toNat = 4 from rfl] at hx248_0); replace p248 := eq_true p248; replace q248 := eq_true q248))
                       go_roundg k1
                       case measure => have := HK1.out; omega
                       case rel => exact ⟨(false), (wrap64 (x52_1 + 1)), (by first | rfl | (simp; done) | (simp [*]; done)), (by first | rfl | (simp; done) | (simp [*]; done)), H', ⟨by have := HK1.out; omega⟩, ⟨rkx HO_230002⟩, ⟨bkx BK229⟩, ⟨hb1 HB GE229⟩⟩
                      ·replace c71 := Bool.eq_false_iff.mpr c71
                       subst c71
                       have H1 : (none) = some r := by rw [if_neg (show ¬ (false = true) by decide)] at H; exact H
                       clear H
                       have H := H1
                       clear H1
                       exact absurd H (by simp)
                     ·rw [if_neg c69] at H
                      exact absurd H (by simp)
                   ·rw [if_neg c64] at H
                    exact absurd H (by simp)
                 ·rw [if_neg c59] at H
                  exact absurd H (by simp)
               ·rw [if_neg c54] at H
                exact absurd H (by simp)
             ·replace c49 := Bool.eq_false_iff.mpr c49
              subst c49
              have H1 : (barscanlaw47_FontShapes.l0 k1 a0 a1 (rdOf false y232 0) (wrap64 (x52_1 + 1)) t223 t224 t225) = some r := by rw [if_neg (show ¬ (false = true) by decide)] at H; exact H
              clear H
              have H := H1
              clear H1
              have H' := Aside0.mk H
              clear H
              have hcz74_0 : wr.cell? ⟨gb229, 0, none⟩ = some (.int .i64 t223) := (blk_cell BK229.out 0).trans rfl
              have hcz74_1 : wr.cell? ⟨gb229, 1, none⟩ = some (.int .i64 t224) := (blk_cell BK229.out 1).trans rfl
              have hcz74_2 : wr.cell? ⟨gb229, 2, none⟩ = some (.slice Ao11 t225.length co11) := (blk_cell BK229.out 2).trans rfl
              have hfz74_0 := blk_frozen BK229.out 0
              have hfz74_1 := blk_frozen BK229.out 1
              have hfz74_2 := blk_frozen BK229.out 2
              have q75 : ((wrap64 ((ji13) + 5)) : Int) ≤ ((t225.length : Int) : Int) := of_decide_eq_true (by first | (with_reducible assumption) | assumption)
              obtain ⟨i075, hi075, _, hsz75, _⟩ := info_parts info4
              have hroom75 : t225.length ≤ co11 := (Kd.R_reads' HO_230002.out).2.1
              have hC75 : Kd.C Kd.bool _ Ao11 t225.length t225 := (Kd.R_reads' HO_230002.out).2.2
              have ql75 : ((ji13) : Int) ≤ ((wrap64 ((ji13) + 5)) : Int) := of_decide_eq_true (by first | (with_reducible assumption) | assumption)
              have q075 : (0 : Int) ≤ ((ji13) : Int) := of_decide_eq_true (by first | (with_reducible assumption) | assumption)
              have hcut75 := cut_mid (P := Try.prog) 22 4 .i64 .i64 Try.underlying22 hi075 1 hsz75 Ao11 t225.length co11 (ji13) (wrap64 ((ji13) + 5)) q075 ql75 q75 hroom75
              have hr75 := Kd.C_mid (lo := ((ji13) : Int).toNat) (hi := ((wrap64 ((ji13) + 5)) : Int).toNat) (c := co11) hC75 (by omega) (by omega) hroom75
              obtain ⟨A75, hA75⟩ : ∃ A1, A1 = (if co11 = ((ji13) : Int).toNat then Ao11 else (Ao11 : Option Addr).map (·.add (((ji13) : Int).toNat * 1))) := ⟨_, rfl⟩
              obtain ⟨c75, hc75⟩ : ∃ c1, c1 = co11 - ((ji13) : Int).toNat := ⟨_, rfl⟩
              have hy75 : y232.length = ((wrap64 ((ji13) + 5)) : Int).toNat - ((ji13) : Int).toNat := (by rw [Ny232.out, List.length_drop, List.length_take] <;> omega)
              rw [show ((t225).take ((wrap64 ((ji13) + 5)) : Int).toNat).drop ((ji13) : Int).toNat = y232 from Ny232.out.symm] at hr75
              replace hr75 : Kd.C Kd.bool _ A75 y232.length y232 := (by rw [hA75]; exact hr75)
              rw [← hy75, ← hA75, ← hc75] at hcut75
              have HR235 := Aside0.mk hr75
              have HC235 := Aside0.mk (show y232.length ≤ c75 from by rw [hy75, hc75]; exact Nat.sub_le_sub_right (Nat.le_trans (by omega) hroom75) _)
              clear hr75 hC75 hroom75 hi075 hsz75 hc75
              have KY75 := Aside0.mk hy75
              have KA75 := Aside0.mk hA75
              clear hy75 hA75
              have KL75 := Aside0.mk (show ((wrap64 ((ji13) + 5)) : Int).toNat ≤ t225.length from by omega)
              have KM75 := Aside0.mk (show ((ji13) : Int).toNat ≤ ((wrap64 ((ji13) + 5)) : Int).toNat from by omega)
              replace q75 := eq_true q75
              have p242 : 0 ≤ (0 : Int) := (by omega)
              have q242 : 0 < (y232.length : Int) := of_decide_eq_true (by first | (with_reducible assumption) | assumption)
              obtain ⟨ad242, e242, hx242_0⟩ := Kd.at_bool (by repeat (first | (with_reducible exact HR235.out) | (with_reducible refine Kd.C_alloc ?_ _) | (with_reducible refine Kd.C_drewN ?_ _) | (with_reducible refine Kd.C_drew ?_) | exact HR235.out)) 0 p242 q242
              cases e242
              have qi242 : (0 < y232.length) = True := eq_true (by omega)
              (try rw [show ((0 : Int)).toNat = 0 from rfl] at hx242_0)
              (try rw [Addr.add_zero'] at hx242_0)
              replace p242 := eq_true p242
              replace q242 := eq_true q242
              go_wp2_with (first | ((with_reducible refine gate_callee (f := 8) rfl ?_); refine goesL_ (some 70) rfl rfl Try.func8 (by kernel_rfl) rfl #[.int .u8 a0] rfl mapx ?_; (with_reducible refine (barscanlaw47_word.calls a0 false _ A48.out).mono ?_); rintro e w' ⟨rfl, ⟨nd, rfl⟩⟩; refine ⟨_, rfl, ?_⟩))
              go_roundg k1
              case measure => have := HK1.out; omega
              case rel => exact ⟨(rdOf false y232 0), (wrap64 (x52_1 + 1)), (by first | rfl | (simp; done) | (simp [*]; done)), (by first | rfl | (simp; done) | (simp [*]; done)), H', ⟨by have := HK1.out; omega⟩, ⟨rkx HO_230002⟩, ⟨bkx BK229⟩, ⟨hb1 HB GE229⟩⟩
            ·rw [if_neg c47] at H
             exact absurd H (by simp)
          ·rw [if_neg c16] at H
           exact absurd H (by simp)
         ·rw [if_neg c15] at H
          exact absurd H (by simp)
        ·rw [if_neg c14] at H
         exact absurd H (by simp)
       ·rw [if_neg c12] at H
        have c12b0 : decide (x52_1 < 7) = false := decide_eq_false c12
        clear c12
        by_cases c76 : (x7_1 == (a0 == 32)) = true
        ·rw [if_pos c76] at H
         exact absurd H (by simp)
        ·rw [if_neg c76] at H
         have c76b0 : (x7_1 == (a0 == 32)) = false := by simpa using c76
         (try (have c76b1 : decide (x7_1 = (a0 == 32)) = false := by simpa using c76))
         (try (have c76b2 : (x7_1 == (a0 == 32)) = false := by simpa using c76))
         (try (have c76b3 : ¬ (x7_1 = (a0 == 32)) := by simpa using c76))
         clear c76
         replace H := Option.bind_eq_some_iff.mp H
         obtain ⟨⟨t249, t250⟩, A770, H⟩ := H
         replace H : ((font_Distance.f k1 a1 a0).bind fun bt251 => (if t250 = 0 then ((font_Closest.f k1).bind fun t255 => (if a0 = a1 then (if t249 = 0 then ((barscanlaw47_examples.f k1).bind fun t256 => (some t256)) else (none)) else (if bt251.2 = 0 then (if t249 = bt251.1 then (if t255 ≥ 2 then (if t249 ≥ t255 then (if t249 ≥ 4 then ((barscanlaw47_examples.f k1).bind fun t257 => (some t257)) else ((barscanlaw47_word.f a0).bind fun t258 => (if t258 = true then ((barscanlaw47_word.f a1).bind fun t259 => (if t259 = true then (none) else ((barscanlaw47_examples.f k1).bind fun t260 => (some t260)))) else ((barscanlaw47_examples.f k1).bind fun t261 => (some t261))))) else (none)) else (none)) else (none)) else (none)))) else (if t250 = 6 then (if bt251.2 = t250 then ((barscanlaw47_word.f a1).bind fun t253 => (if t253 = true then (none) else ((barscanlaw47_examples.f k1).bind fun t254 => (some t254)))) else (none)) else (none)))) = some r := H
         have A77 := Aside0.mk A770
         clear A770
         replace H := Option.bind_eq_some_iff.mp H
         obtain ⟨⟨t251, t252⟩, A780, H⟩ := H
         replace H : (if t250 = 0 then ((font_Closest.f k1).bind fun t255 => (if a0 = a1 then (if t249 = 0 then ((barscanlaw47_examples.f k1).bind fun t256 => (some t256)) else (none)) else (if t252 = 0 then (if t249 = t251 then (if t255 ≥ 2 then (if t249 ≥ t255 then (if t249 ≥ 4 then ((barscanlaw47_examples.f k1).bind fun t257 => (some t257)) else ((barscanlaw47_word.f a0).bind fun t258 => (if t258 = true then ((barscanlaw47_word.f a1).bind fun t259 => (if t259 = true then (none) else ((barscanlaw47_examples.f k1).bind fun t260 => (some t260)))) else ((barscanlaw47_examples.f k1).bind fun t261 => (some t261))))) else (none)) else (none)) else (none)) else (none)))) else (if t250 = 6 then (if t252 = t250 then ((barscanlaw47_word.f a1).bind fun t253 => (if t253 = true then (none) else ((barscanlaw47_examples.f k1).bind fun t254 => (some t254)))) else (none)) else (none))) = some r := H
         have A78 := Aside0.mk A780
         clear A780
         by_cases c79 : t250 = 0
         ·rw [if_pos c79] at H
          have c79b0 : (t250 == 0) = true := beq_iff_eq.mpr c79
          have c79b1 : (t250 != 0) = false := bne_eq_false_iff_eq.mpr c79
          clear c79
          replace H := Option.bind_eq_some_iff.mp H
          obtain ⟨t255, A800, H⟩ := H
          replace H : (if a0 = a1 then (if t249 = 0 then ((barscanlaw47_examples.f k1).bind fun t256 => (some t256)) else (none)) else (if t252 = 0 then (if t249 = t251 then (if t255 ≥ 2 then (if t249 ≥ t255 then (if t249 ≥ 4 then ((barscanlaw47_examples.f k1).bind fun t257 => (some t257)) else ((barscanlaw47_word.f a0).bind fun t258 => (if t258 = true then ((barscanlaw47_word.f a1).bind fun t259 => (if t259 = true then (none) else ((barscanlaw47_examples.f k1).bind fun t260 => (some t260)))) else ((barscanlaw47_examples.f k1).bind fun t261 => (some t261))))) else (none)) else (none)) else (none)) else (none))) = some r := H
          have A80 := Aside0.mk A800
          clear A800
          by_cases c81 : a0 = a1
          ·rw [if_pos c81] at H
           have c81b0 : (a0 == a1) = true := beq_iff_eq.mpr c81
           have c81b1 : (a0 != a1) = false := bne_eq_false_iff_eq.mpr c81
           clear c81
           by_cases c82 : t249 = 0
           ·rw [if_pos c82] at H
            have c82b0 : (t249 == 0) = true := beq_iff_eq.mpr c82
            have c82b1 : (t249 != 0) = false := bne_eq_false_iff_eq.mpr c82
            clear c82
            replace H := Option.bind_eq_some_iff.mp H
            obtain ⟨t256, A830, H⟩ := H
            replace H : (some t256) = some r := H
            have A83 := Aside0.mk A830
            clear A830
            obtain rfl := Option.some.inj H
            go_wp2_with (first | ((with_reducible refine gate_callee (f := 10) rfl ?_); refine goesL_ (some 109) rfl rfl Try.func10 (by kernel_rfl) rfl #[.int .u8 a0, .int .u8 a1] rfl mapx ?_; (with_reducible refine (font_Distance.calls k1 a0 a1 t249 t250 _ A77.out).mono ?_); rintro e w84 ⟨rfl, hb⟩; refine ⟨_, rfl, ?_⟩; have n0_ := Aside0.mk (Kd.R_below (rkx HO_230002) hb); have n1_ := Aside0.mk (blk_below (bkx BK229) hb); have n2_ := Aside0.mk (below_step (hb1 HB GE229) hb); clear HO_230002; clear BK229; clear HB; have HO_230002 := n0_; have BK229 := n1_; have HB := n2_; clear n0_ n1_ n2_; (try clear hb); (try clear hb2); (try clear hk); (try clear hi)) | ((with_reducible refine gate_callee (f := 10) rfl ?_); refine goesL_ (some 115) rfl rfl Try.func10 (by kernel_rfl) rfl #[.int .u8 a1, .int .u8 a0] rfl mapx ?_; (with_reducible refine (font_Distance.calls k1 a1 a0 t251 t252 _ A78.out).mono ?_); rintro e w85 ⟨rfl, hb⟩; refine ⟨_, rfl, ?_⟩; have n0_ := Aside0.mk (Kd.R_below (rkx HO_230002) hb); have n1_ := Aside0.mk (blk_below (bkx BK229) hb); have n2_ := Aside0.mk (below_step (hb1 HB GE229) hb); clear HO_230002; clear BK229; clear HB; have HO_230002 := n0_; have BK229 := n1_; have HB := n2_; clear n0_ n1_ n2_; (try clear hb); (try clear hb2); (try clear hk); (try clear hi)) | ((with_reducible refine gate_callee (f := 11) rfl ?_); refine goesL_ (some 135) rfl rfl Try.func11 (by kernel_rfl) rfl #[] rfl mapx ?_; (with_reducible refine (font_Closest.calls k1  t255 _ A80.out).mono ?_); rintro e w86 ⟨rfl, hb⟩; refine ⟨_, rfl, ?_⟩; have n0_ := Aside0.mk (Kd.R_below (rkx HO_230002) hb); have n1_ := Aside0.mk (blk_below (bkx BK229) hb); have n2_ := Aside0.mk (below_step (hb1 HB GE229) hb); clear HO_230002; clear BK229; clear HB; have HO_230002 := n0_; have BK229 := n1_; have HB := n2_; clear n0_ n1_ n2_; (try clear hb); (try clear hb2); (try clear hk); (try clear hi)) | (go_at_call 9; (with_reducible refine (barscanlaw47_examples.calls k1  t256 _ A83.out).mono ?_); rintro e w87 ⟨rfl, hb⟩; have n0_ := Aside0.mk (Kd.R_below (rkx HO_230002) hb); have n1_ := Aside0.mk (blk_below (bkx BK229) hb); have n2_ := Aside0.mk (below_step (hb1 HB GE229) hb); clear HO_230002; clear BK229; clear HB; have HO_230002 := n0_; have BK229 := n1_; have HB := n2_; clear n0_ n1_ n2_; (try clear hb); (try clear hb2); (try clear hk); (try clear hi)))
            go_ret
            exact ⟨by first | rfl | (simp [errW_none, errW_some] <;> rfl) | (simp [*, errW_none, errW_some] <;> rfl), by repeat (first | (with_reducible first | exact HB.out | apply below_alloc | apply pw_below_drewN | apply below_drew1 | refine below_set ?_ GE229.out) | exact HB.out)⟩
           ·rw [if_neg c82] at H
            exact absurd H (by simp)
          ·rw [if_neg c81] at H
           have c81b0 : (a0 == a1) = false := beq_eq_false_iff_ne.mpr c81
           have c81b1 : (a0 != a1) = true := bne_iff_ne.mpr c81
           by_cases c88 : t252 = 0
           ·rw [if_pos c88] at H
            have c88b0 : (t252 == 0) = true := beq_iff_eq.mpr c88
            have c88b1 : (t252 != 0) = false := bne_eq_false_iff_eq.mpr c88
            clear c88
            by_cases c89 : t249 = t251
            ·rw [if_pos c89] at H
             have c89b0 : (t249 == t251) = true := beq_iff_eq.mpr c89
             have c89b1 : (t249 != t251) = false := bne_eq_false_iff_eq.mpr c89
             clear c89
             by_cases c90 : t255 ≥ 2
             ·rw [if_pos c90] at H
              have c90b0 : decide (2 ≤ t255) = true := decide_eq_true c90
              clear c90
              by_cases c91 : t249 ≥ t255
              ·rw [if_pos c91] at H
               have c91b0 : decide (t255 ≤ t249) = true := decide_eq_true c91
               clear c91
               by_cases c92 : t249 ≥ 4
               ·rw [if_pos c92] at H
                have c92b0 : decide (4 ≤ t249) = true := decide_eq_true c92
                clear c92
                replace H := Option.bind_eq_some_iff.mp H
                obtain ⟨t257, A930, H⟩ := H
                replace H : (some t257) = some r := H
                have A93 := Aside0.mk A930
                clear A930
                obtain rfl := Option.some.inj H
                go_wp2_with (first | ((with_reducible refine gate_callee (f := 10) rfl ?_); refine goesL_ (some 109) rfl rfl Try.func10 (by kernel_rfl) rfl #[.int .u8 a0, .int .u8 a1] rfl mapx ?_; (with_reducible refine (font_Distance.calls k1 a0 a1 t249 t250 _ A77.out).mono ?_); rintro e w94 ⟨rfl, hb⟩; refine ⟨_, rfl, ?_⟩; have n0_ := Aside0.mk (Kd.R_below (rkx HO_230002) hb); have n1_ := Aside0.mk (blk_below (bkx BK229) hb); have n2_ := Aside0.mk (below_step (hb1 HB GE229) hb); clear HO_230002; clear BK229; clear HB; have HO_230002 := n0_; have BK229 := n1_; have HB := n2_; clear n0_ n1_ n2_; (try clear hb); (try clear hb2); (try clear hk); (try clear hi)) | ((with_reducible refine gate_callee (f := 10) rfl ?_); refine goesL_ (some 115) rfl rfl Try.func10 (by kernel_rfl) rfl #[.int .u8 a1, .int .u8 a0] rfl mapx ?_; (with_reducible refine (font_Distance.calls k1 a1 a0 t251 t252 _ A78.out).mono ?_); rintro e w95 ⟨rfl, hb⟩; refine ⟨_, rfl, ?_⟩; have n0_ := Aside0.mk (Kd.R_below (rkx HO_230002) hb); have n1_ := Aside0.mk (blk_below (bkx BK229) hb); have n2_ := Aside0.mk (below_step (hb1 HB GE229) hb); clear HO_230002; clear BK229; clear HB; have HO_230002 := n0_; have BK229 := n1_; have HB := n2_; clear n0_ n1_ n2_; (try clear hb); (try clear hb2); (try clear hk); (try clear hi)) | ((with_reducible refine gate_callee (f := 11) rfl ?_); refine goesL_ (some 135) rfl rfl Try.func11 (by kernel_rfl) rfl #[] rfl mapx ?_; (with_reducible refine (font_Closest.calls k1  t255 _ A80.out).mono ?_); rintro e w96 ⟨rfl, hb⟩; refine ⟨_, rfl, ?_⟩; have n0_ := Aside0.mk (Kd.R_below (rkx HO_230002) hb); have n1_ := Aside0.mk (blk_below (bkx BK229) hb); have n2_ := Aside0.mk (below_step (hb1 HB GE229) hb); clear HO_230002; clear BK229; clear HB; have HO_230002 := n0_; have BK229 := n1_; have HB := n2_; clear n0_ n1_ n2_; (try clear hb); (try clear hb2); (try clear hk); (try clear hi)) | (go_at_call 9; (with_reducible refine (barscanlaw47_examples.calls k1  t257 _ A93.out).mono ?_); rintro e w97 ⟨rfl, hb⟩; have n0_ := Aside0.mk (Kd.R_below (rkx HO_230002) hb); have n1_ := Aside0.mk (blk_below (bkx BK229) hb); have n2_ := Aside0.mk (below_step (hb1 HB GE229) hb); clear HO_230002; clear BK229; clear HB; have HO_230002 := n0_; have BK229 := n1_; have HB := n2_; clear n0_ n1_ n2_; (try clear hb); (try clear hb2); (try clear hk); (try clear hi)))
                go_ret
                exact ⟨by first | rfl | (simp [errW_none, errW_some] <;> rfl) | (simp [*, errW_none, errW_some] <;> rfl), by repeat (first | (with_reducible first | exact HB.out | apply below_alloc | apply pw_below_drewN | apply below_drew1 | refine below_set ?_ GE229.out) | exact HB.out)⟩
               ·rw [if_neg c92] at H
                have c92b0 : decide (4 ≤ t249) = false := decide_eq_false c92
                clear c92
                replace H := Option.bind_eq_some_iff.mp H
                obtain ⟨t258, A980, H⟩ := H
                replace H : (if t258 = true then ((barscanlaw47_word.f a1).bind fun t259 => (if t259 = true then (none) else ((barscanlaw47_examples.f k1).bind fun t260 => (some t260)))) else ((barscanlaw47_examples.f k1).bind fun t261 => (some t261))) = some r := H
                have A98 := Aside0.mk A980
                clear A980
                by_cases c99 : t258 = true
                ·subst c99
                 have H1 : ((barscanlaw47_word.f a1).bind fun t259 => (if t259 = true then (none) else ((barscanlaw47_examples.f k1).bind fun t260 => (some t260)))) = some r := by rw [if_pos rfl] at H; exact H
                 clear H
                 have H := H1
                 clear H1
                 replace H := Option.bind_eq_some_iff.mp H
                 obtain ⟨t259, A1000, H⟩ := H
                 replace H : (if t259 = true then (none) else ((barscanlaw47_examples.f k1).bind fun t260 => (some t260))) = some r := H
                 have A100 := Aside0.mk A1000
                 clear A1000
                 by_cases c101 : t259 = true
                 ·subst c101
                  have H1 : (none) = some r := by rw [if_pos rfl] at H; exact H
                  clear H
                  have H := H1
                  clear H1
                  exact absurd H (by simp)
                 ·replace c101 := Bool.eq_false_iff.mpr c101
                  subst c101
                  have H1 : ((barscanlaw47_examples.f k1).bind fun t260 => (some t260)) = some r := by rw [if_neg (show ¬ (false = true) by decide)] at H; exact H
                  clear H
                  have H := H1
                  clear H1
                  replace H := Option.bind_eq_some_iff.mp H
                  obtain ⟨t260, A1020, H⟩ := H
                  replace H : (some t260) = some r := H
                  have A102 := Aside0.mk A1020
                  clear A1020
                  obtain rfl := Option.some.inj H
                  go_wp2_with (first | ((with_reducible refine gate_callee (f := 10) rfl ?_); refine goesL_ (some 109) rfl rfl Try.func10 (by kernel_rfl) rfl #[.int .u8 a0, .int .u8 a1] rfl mapx ?_; (with_reducible refine (font_Distance.calls k1 a0 a1 t249 t250 _ A77.out).mono ?_); rintro e w103 ⟨rfl, hb⟩; refine ⟨_, rfl, ?_⟩; have n0_ := Aside0.mk (Kd.R_below (rkx HO_230002) hb); have n1_ := Aside0.mk (blk_below (bkx BK229) hb); have n2_ := Aside0.mk (below_step (hb1 HB GE229) hb); clear HO_230002; clear BK229; clear HB; have HO_230002 := n0_; have BK229 := n1_; have HB := n2_; clear n0_ n1_ n2_; (try clear hb); (try clear hb2); (try clear hk); (try clear hi)) | ((with_reducible refine gate_callee (f := 10) rfl ?_); refine goesL_ (some 115) rfl rfl Try.func10 (by kernel_rfl) rfl #[.int .u8 a1, .int .u8 a0] rfl mapx ?_; (with_reducible refine (font_Distance.calls k1 a1 a0 t251 t252 _ A78.out).mono ?_); rintro e w104 ⟨rfl, hb⟩; refine ⟨_, rfl, ?_⟩; have n0_ := Aside0.mk (Kd.R_below (rkx HO_230002) hb); have n1_ := Aside0.mk (blk_below (bkx BK229) hb); have n2_ := Aside0.mk (below_step (hb1 HB GE229) hb); clear HO_230002; clear BK229; clear HB; have HO_230002 := n0_; have BK229 := n1_; have HB := n2_; clear n0_ n1_ n2_; (try clear hb); (try clear hb2); (try clear hk); (try clear hi)) | ((with_reducible refine gate_callee (f := 11) rfl ?_); refine goesL_ (some 135) rfl rfl Try.func11 (by kernel_rfl) rfl #[] rfl mapx ?_; (with_reducible refine (font_Closest.calls k1  t255 _ A80.out).mono ?_); rintro e w105 ⟨rfl, hb⟩; refine ⟨_, rfl, ?_⟩; have n0_ := Aside0.mk (Kd.R_below (rkx HO_230002) hb); have n1_ := Aside0.mk (blk_below (bkx BK229) hb); have n2_ := Aside0.mk (below_step (hb1 HB GE229) hb); clear HO_230002; clear BK229; clear HB; have HO_230002 := n0_; have BK229 := n1_; have HB := n2_; clear n0_ n1_ n2_; (try clear hb); (try clear hb2); (try clear hk); (try clear hi)) | (go_at_call 8; (with_reducible refine (barscanlaw47_word.calls a0 true _ A98.out).mono ?_); rintro e w' ⟨rfl, ⟨nd, rfl⟩⟩) | (go_at_call 8; (with_reducible refine (barscanlaw47_word.calls a1 false _ A100.out).mono ?_); rintro e w' ⟨rfl, ⟨nd, rfl⟩⟩) | (go_at_call 9; (with_reducible refine (barscanlaw47_examples.calls k1  t260 _ A102.out).mono ?_); rintro e w106 ⟨rfl, hb⟩; have n0_ := Aside0.mk (Kd.R_below (rkx HO_230002) hb); have n1_ := Aside0.mk (blk_below (bkx BK229) hb); have n2_ := Aside0.mk (below_step (hb1 HB GE229) hb); clear HO_230002; clear BK229; clear HB; have HO_230002 := n0_; have BK229 := n1_; have HB := n2_; clear n0_ n1_ n2_; (try clear hb); (try clear hb2); (try clear hk); (try clear hi)))
                  go_ret
                  exact ⟨by first | rfl | (simp [errW_none, errW_some] <;> rfl) | (simp [*, errW_none, errW_some] <;> rfl), by repeat (first | (with_reducible first | exact HB.out | apply below_alloc | apply pw_below_drewN | apply below_drew1 | refine below_set ?_ GE229.out) | exact HB.out)⟩
                ·replace c99 := Bool.eq_false_iff.mpr c99
                 subst c99
                 have H1 : ((barscanlaw47_examples.f k1).bind fun t261 => (some t261)) = some r := by rw [if_neg (show ¬ (false = true) by decide)] at H; exact H
                 clear H
                 have H := H1
                 clear H1
                 replace H := Option.bind_eq_some_iff.mp H
                 obtain ⟨t261, A1070, H⟩ := H
                 replace H : (some t261) = some r := H
                 have A107 := Aside0.mk A1070
                 clear A1070
                 obtain rfl := Option.some.inj H
                 go_wp2_with (first | ((with_reducible refine gate_callee (f := 10) rfl ?_); refine goesL_ (some 109) rfl rfl Try.func10 (by kernel_rfl) rfl #[.int .u8 a0, .int .u8 a1] rfl mapx ?_; (with_reducible refine (font_Distance.calls k1 a0 a1 t249 t250 _ A77.out).mono ?_); rintro e w108 ⟨rfl, hb⟩; refine ⟨_, rfl, ?_⟩; have n0_ := Aside0.mk (Kd.R_below (rkx HO_230002) hb); have n1_ := Aside0.mk (blk_below (bkx BK229) hb); have n2_ := Aside0.mk (below_step (hb1 HB GE229) hb); clear HO_230002; clear BK229; clear HB; have HO_230002 := n0_; have BK229 := n1_; have HB := n2_; clear n0_ n1_ n2_; (try clear hb); (try clear hb2); (try clear hk); (try clear hi)) | ((with_reducible refine gate_callee (f := 10) rfl ?_); refine goesL_ (some 115) rfl rfl Try.func10 (by kernel_rfl) rfl #[.int .u8 a1, .int .u8 a0] rfl mapx ?_; (with_reducible refine (font_Distance.calls k1 a1 a0 t251 t252 _ A78.out).mono ?_); rintro e w109 ⟨rfl, hb⟩; refine ⟨_, rfl, ?_⟩; have n0_ := Aside0.mk (Kd.R_below (rkx HO_230002) hb); have n1_ := Aside0.mk (blk_below (bkx BK229) hb); have n2_ := Aside0.mk (below_step (hb1 HB GE229) hb); clear HO_230002; clear BK229; clear HB; have HO_230002 := n0_; have BK229 := n1_; have HB := n2_; clear n0_ n1_ n2_; (try clear hb); (try clear hb2); (try clear hk); (try clear hi)) | ((with_reducible refine gate_callee (f := 11) rfl ?_); refine goesL_ (some 135) rfl rfl Try.func11 (by kernel_rfl) rfl #[] rfl mapx ?_; (with_reducible refine (font_Closest.calls k1  t255 _ A80.out).mono ?_); rintro e w110 ⟨rfl, hb⟩; refine ⟨_, rfl, ?_⟩; have n0_ := Aside0.mk (Kd.R_below (rkx HO_230002) hb); have n1_ := Aside0.mk (blk_below (bkx BK229) hb); have n2_ := Aside0.mk (below_step (hb1 HB GE229) hb); clear HO_230002; clear BK229; clear HB; have HO_230002 := n0_; have BK229 := n1_; have HB := n2_; clear n0_ n1_ n2_; (try clear hb); (try clear hb2); (try clear hk); (try clear hi)) | (go_at_call 8; (with_reducible refine (barscanlaw47_word.calls a0 false _ A98.out).mono ?_); rintro e w' ⟨rfl, ⟨nd, rfl⟩⟩) | (go_at_call 9; (with_reducible refine (barscanlaw47_examples.calls k1  t261 _ A107.out).mono ?_); rintro e w111 ⟨rfl, hb⟩; have n0_ := Aside0.mk (Kd.R_below (rkx HO_230002) hb); have n1_ := Aside0.mk (blk_below (bkx BK229) hb); have n2_ := Aside0.mk (below_step (hb1 HB GE229) hb); clear HO_230002; clear BK229; clear HB; have HO_230002 := n0_; have BK229 := n1_; have HB := n2_; clear n0_ n1_ n2_; (try clear hb); (try clear hb2); (try clear hk); (try clear hi)))
                 go_ret
                 exact ⟨by first | rfl | (simp [errW_none, errW_some] <;> rfl) | (simp [*, errW_none, errW_some] <;> rfl), by repeat (first | (with_reducible first | exact HB.out | apply below_alloc | apply pw_below_drewN | apply below_drew1 | refine below_set ?_ GE229.out) | exact HB.out)⟩
              ·rw [if_neg c91] at H
               exact absurd H (by simp)
             ·rw [if_neg c90] at H
              exact absurd H (by simp)
            ·rw [if_neg c89] at H
             exact absurd H (by simp)
           ·rw [if_neg c88] at H
            exact absurd H (by simp)
         ·rw [if_neg c79] at H
          have c79b0 : (t250 == 0) = false := beq_eq_false_iff_ne.mpr c79
          have c79b1 : (t250 != 0) = true := bne_iff_ne.mpr c79
          by_cases c112 : t250 = 6
          ·rw [if_pos c112] at H
           have c112b0 : (t250 == 6) = true := beq_iff_eq.mpr c112
           have c112b1 : (t250 != 6) = false := bne_eq_false_iff_eq.mpr c112
           clear c112
           by_cases c113 : t252 = t250
           ·rw [if_pos c113] at H
            have c113b0 : (t252 == t250) = true := beq_iff_eq.mpr c113
            have c113b1 : (t252 != t250) = false := bne_eq_false_iff_eq.mpr c113
            clear c113
            replace H := Option.bind_eq_some_iff.mp H
            obtain ⟨t253, A1140, H⟩ := H
            replace H : (if t253 = true then (none) else ((barscanlaw47_examples.f k1).bind fun t254 => (some t254))) = some r := H
            have A114 := Aside0.mk A1140
            clear A1140
            by_cases c115 : t253 = true
            ·subst c115
             have H1 : (none) = some r := by rw [if_pos rfl] at H; exact H
             clear H
             have H := H1
             clear H1
             exact absurd H (by simp)
            ·replace c115 := Bool.eq_false_iff.mpr c115
             subst c115
             have H1 : ((barscanlaw47_examples.f k1).bind fun t254 => (some t254)) = some r := by rw [if_neg (show ¬ (false = true) by decide)] at H; exact H
             clear H
             have H := H1
             clear H1
             replace H := Option.bind_eq_some_iff.mp H
             obtain ⟨t254, A1160, H⟩ := H
             replace H : (some t254) = some r := H
             have A116 := Aside0.mk A1160
             clear A1160
             obtain rfl := Option.some.inj H
             go_wp2_with (first | ((with_reducible refine gate_callee (f := 10) rfl ?_); refine goesL_ (some 109) rfl rfl Try.func10 (by kernel_rfl) rfl #[.int .u8 a0, .int .u8 a1] rfl mapx ?_; (with_reducible refine (font_Distance.calls k1 a0 a1 t249 t250 _ A77.out).mono ?_); rintro e w117 ⟨rfl, hb⟩; refine ⟨_, rfl, ?_⟩; have n0_ := Aside0.mk (Kd.R_below (rkx HO_230002) hb); have n1_ := Aside0.mk (blk_below (bkx BK229) hb); have n2_ := Aside0.mk (below_step (hb1 HB GE229) hb); clear HO_230002; clear BK229; clear HB; have HO_230002 := n0_; have BK229 := n1_; have HB := n2_; clear n0_ n1_ n2_; (try clear hb); (try clear hb2); (try clear hk); (try clear hi)) | ((with_reducible refine gate_callee (f := 10) rfl ?_); refine goesL_ (some 115) rfl rfl Try.func10 (by kernel_rfl) rfl #[.int .u8 a1, .int .u8 a0] rfl mapx ?_; (with_reducible refine (font_Distance.calls k1 a1 a0 t251 t252 _ A78.out).mono ?_); rintro e w118 ⟨rfl, hb⟩; refine ⟨_, rfl, ?_⟩; have n0_ := Aside0.mk (Kd.R_below (rkx HO_230002) hb); have n1_ := Aside0.mk (blk_below (bkx BK229) hb); have n2_ := Aside0.mk (below_step (hb1 HB GE229) hb); clear HO_230002; clear BK229; clear HB; have HO_230002 := n0_; have BK229 := n1_; have HB := n2_; clear n0_ n1_ n2_; (try clear hb); (try clear hb2); (try clear hk); (try clear hi)) | (go_at_call 8; (with_reducible refine (barscanlaw47_word.calls a1 false _ A114.out).mono ?_); rintro e w' ⟨rfl, ⟨nd, rfl⟩⟩) | (go_at_call 9; (with_reducible refine (barscanlaw47_examples.calls k1  t254 _ A116.out).mono ?_); rintro e w119 ⟨rfl, hb⟩; have n0_ := Aside0.mk (Kd.R_below (rkx HO_230002) hb); have n1_ := Aside0.mk (blk_below (bkx BK229) hb); have n2_ := Aside0.mk (below_step (hb1 HB GE229) hb); clear HO_230002; clear BK229; clear HB; have HO_230002 := n0_; have BK229 := n1_; have HB := n2_; clear n0_ n1_ n2_; (try clear hb); (try clear hb2); (try clear hk); (try clear hi)))
             go_ret
             exact ⟨by first | rfl | (simp [errW_none, errW_some] <;> rfl) | (simp [*, errW_none, errW_some] <;> rfl), by repeat (first | (with_reducible first | exact HB.out | apply below_alloc | apply pw_below_drewN | apply below_drew1 | refine below_set ?_ GE229.out) | exact HB.out)⟩
           ·rw [if_neg c113] at H
            exact absurd H (by simp)
          ·rw [if_neg c112] at H
           exact absurd H (by simp)
    ·rw [if_neg c7] at H
     exact absurd H (by simp)
   ·rw [if_neg c6] at H
    exact absurd H (by simp)
  ·rw [if_neg c5] at H
   exact absurd H (by simp)
 ·rw [if_neg c4] at H
  have c4b0 : (t228 == 0) = false := beq_eq_false_iff_ne.mpr c4
  have c4b1 : (t228 != 0) = true := bne_iff_ne.mpr c4
  by_cases c120 : t228 = 6
  ·rw [if_pos c120] at H
   have c120b0 : (t228 == 6) = true := beq_iff_eq.mpr c120
   have c120b1 : (t228 != 6) = false := bne_eq_false_iff_eq.mpr c120
   clear c120
   replace H := Option.bind_eq_some_iff.mp H
   obtain ⟨t230, A1210, H⟩ := H
   replace H : (if t230 = true then (none) else (if (t225.length : Int) = 0 then ((barscanlaw47_examples.f k).bind fun t231 => (some t231)) else (none))) = some r := H
   have A121 := Aside0.mk A1210
   clear A1210
   by_cases c122 : t230 = true
   ·subst c122
    have H1 : (none) = some r := by rw [if_pos rfl] at H; exact H
    clear H
    have H := H1
    clear H1
    exact absurd H (by simp)
   ·replace c122 := Bool.eq_false_iff.mpr c122
    subst c122
    have H1 : (if (t225.length : Int) = 0 then ((barscanlaw47_examples.f k).bind fun t231 => (some t231)) else (none)) = some r := by rw [if_neg (show ¬ (false = true) by decide)] at H; exact H
    clear H
    have H := H1
    clear H1
    by_cases c123 : (t225.length : Int) = 0
    ·rw [if_pos c123] at H
     have c123b0 : ((t225.length : Int) == 0) = true := beq_iff_eq.mpr c123
     have c123b1 : ((t225.length : Int) != 0) = false := bne_eq_false_iff_eq.mpr c123
     clear c123
     replace H := Option.bind_eq_some_iff.mp H
     obtain ⟨t231, A1240, H⟩ := H
     replace H : (some t231) = some r := H
     have A124 := Aside0.mk A1240
     clear A1240
     obtain rfl := Option.some.inj H
     go_enter Try.func3, Try.ntmps3
     go_wp2_with (first | ((with_reducible refine gate_callee (f := 7) rfl ?_); refine goesL_ (some 17) rfl rfl Try.func7 (by kernel_rfl) rfl #[.int .u8 a0] rfl mapx ?_; (with_reducible refine (font_Glyph.calls k a0 t223 t224 t225 t228 _ A3.out).mono ?_); rintro e w125 ⟨v226, rfl, ho0, hb⟩; refine ⟨_, rfl, ?_⟩; have n0_ := Aside0.mk (Kd.R_lower ho0 (below_size (hb0 HB))); have n1_ := Aside0.mk (below_step (hb0 HB) hb); clear HB; have HO227 := n0_; have HB := n1_; clear n0_ n1_; (try clear hb); (try clear hb2); (try clear hk); (try clear hi); (try clear ho0)) | ((with_reducible refine gate_dst (N := 5) rfl ?_); (try (refine gate_guard (by rfl) ?_; dsimp only)); refine box_event ?hg (N := 5) ?hd (cs := #[.int .i64 0, .int .i64 0, .slice none 0 0]) (t := 24) ?hr ?_; (case hd => rfl); (case hg => rfl); (case hr => first | (go_simp; done) | (go_simp; rfl)); intro gb229 hg w126 hbox hb; have n0_ := Aside0.mk (Kd.R_below (rkx HO227) hb); have n1_ := Aside0.mk (below_step (hb0 HB) hb); have n2_ := Aside0.mk (hbox); have n3_ := Aside0.mk ((by rw [hg]; exact (below_size (hb0 HB)) : w.heap.size ≤ gb229)); have n4_ := Aside0.mk ((by rw [hg]; exact (below_size (hb0 HB)) : w.heap.size ≤ gb229)); clear HO227; clear HB; have HO227 := n0_; have HB := n1_; have BK229 := n2_; have GW229 := n3_; have GE229 := n4_; clear n0_ n1_ n2_ n3_ n4_; clear hb hbox hg; have hcz127_0 : w126.cell? ⟨gb229, 0, none⟩ = some (.int .i64 0) := (blk_cell BK229.out 0).trans rfl; have hcz127_1 : w126.cell? ⟨gb229, 1, none⟩ = some (.int .i64 0) := (blk_cell BK229.out 1).trans rfl; have hcz127_2 : w126.cell? ⟨gb229, 2, none⟩ = some (.slice none 0 0) := (blk_cell BK229.out 2).trans rfl; have hfz127_0 := blk_frozen BK229.out 0; have hfz127_1 := blk_frozen BK229.out 1; have hfz127_2 := blk_frozen BK229.out 2; obtain ⟨Ao128, co128, eo128⟩ := Kd.R_slice HO227.out; subst eo128) | (go_at_call 8; (with_reducible refine (barscanlaw47_word.calls a0 false _ A121.out).mono ?_); rintro e w' ⟨rfl, ⟨nd, rfl⟩⟩) | (go_at_call 9; (with_reducible refine (barscanlaw47_examples.calls k  t231 _ A124.out).mono ?_); rintro e w129 ⟨rfl, hb⟩; have n0_ := Aside0.mk (Kd.R_below (by refine rkt ?_; exact (far3 HO227 BK229)) hb); have n1_ := Aside0.mk (blk_below (g := gb229) (o := .cells #[.int .i64 t223, .int .i64 t224, .slice Ao128 t225.length co128] 24 (0, 0)) (by refine bkt ?_; refine blk_put (cs := #[.int .i64 t223, .int .i64 t224, .slice none 0 0]) ?_ 2 _ rfl; refine bkt ?_; refine blk_put (cs := #[.int .i64 t223, .int .i64 0, .slice none 0 0]) ?_ 1 _ rfl; refine bkt ?_; refine blk_put (cs := #[.int .i64 0, .int .i64 0, .slice none 0 0]) ?_ 0 _ rfl; refine bkt ?_; exact BK229.out) hb); have n2_ := Aside0.mk (below_step (hb1 HB GE229) hb); clear HO227; clear BK229; clear HB; have HO227 := n0_; have BK229 := n1_; have HB := n2_; clear n0_ n1_ n2_; (try clear hb); (try clear hb2); (try clear hk); (try clear hi)))
     go_ret
     exact ⟨by first | rfl | (simp [errW_none, errW_some] <;> rfl) | (simp [*, errW_none, errW_some] <;> rfl), by repeat (first | (with_reducible first | exact HB.out | apply below_alloc | apply pw_below_drewN | apply below_drew1 | refine below_set ?_ GE229.out) | exact HB.out)⟩
    ·rw [if_neg c123] at H
     exact absurd H (by simp)
  ·rw [if_neg c120] at H
   exact absurd H (by simp)

/-- THE ONE PURE STATEMENT of barscanlaw47_FontShapes: yours. -/
def barscanlaw47_FontShapes.Pure : Prop := ∀ (a0 : Int) (a1 : Int), (Lit.int .u8 a0).wf = true → (Lit.int .u8 a1).wf = true → ∃ k, barscanlaw47_FontShapes.f k a0 a1 = some true
theorem barscanlaw47_FontShapes.walk (P : barscanlaw47_FontShapes.Pure) (a0 : Int) (a1 : Int) (w : World) (w0 : (Lit.int .u8 a0).wf = true) (w1 : (Lit.int .u8 a1).wf = true) :
  Calls Try.prog 3 #[.int .u8 a0, .int .u8 a1] w fun e w' => e = .returned (.bool true) ∧ Below w.heap.size w w' := by
 obtain ⟨k, h⟩ := P a0 a1 w0 w1
 refine (barscanlaw47_FontShapes.calls k a0 a1 true w h).mono ?_
 rintro e w' ⟨rfl, hd⟩
 exact ⟨rfl, hd⟩

end Go.Proofs.Ytghfcdgdbdeomaa.PR
