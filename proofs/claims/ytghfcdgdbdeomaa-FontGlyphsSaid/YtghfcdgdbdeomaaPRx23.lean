-- Written by this session's own program (myprint.py).
import Derived.Test.YtghfcdgdbdeomaaPRx0
import Derived.Test.YtghfcdgdbdeomaaPRx2
import Derived.Test.YtghfcdgdbdeomaaPRx3
import Derived.Test.YtghfcdgdbdeomaaPRx7
import Derived.Test.YtghfcdgdbdeomaaPRx8
import Derived.Test.YtghfcdgdbdeomaaPRx14
import Derived.Test.YtghfcdgdbdeomaaPRx17
import Derived.Test.YtghfcdgdbdeomaaPRx21
import Derived.Test.YtghfcdgdbdeomaaPRx22
namespace Go.Proofs.Ytghfcdgdbdeomaa.PR
open Go.RowKit Go.Proofs.YtghfcdgdbdeomaaW.PrintWords Go.Proofs.YtghfcdgdbdeomaaW.PrintLast Go.Proofs.YtghfcdgdbdeomaaW.PrintMore Go.Proofs.Ytghfcdgdbdeomaa.XWords Go.Proofs.Ytghfcdgdbdeomaa.XShort
attribute [local go_sem] max2_int min2_int max_two min_two max_three min_three max_four min_four   -- for this text's walks alone
set_option linter.unusedVariables false
set_option linter.unusedSimpArgs false

/-! ### barscanlaw47_FontGlyphs: function 6 -/
def barscanlaw47_FontGlyphs.f (k : Nat) (a0 : Int) (a1 : Int) : Option (Bool) := (font_Glyph.f k a0).bind fun bt461 => ((barscanref47_Glyph.f k a0).bind fun bt468 => ((font_Distance.f k a0 a1).bind fun bt475 => ((barscanref47_Distance.f k a0 a1).bind fun bt477 => ((barscanlaw47_same.f k bt461.1 bt461.2.1 bt461.2.2.1 bt468.1 bt468.2.1 bt468.2.2.1).bind fun t479 => (if t479 = true then (if bt461.2.2.2 = bt468.2.2.2 then (if bt475.1 = bt477.1 then (if bt475.2 = bt477.2 then ((font_Chars.f k).bind fun t480 => ((barscanref47_Chars.f k).bind fun t483 => (if (strOfNums t480).toList = (strOfNums t483).toList then ((font_Closest.f k).bind fun t486 => ((barscanref47_Closest.f k).bind fun t487 => (if t486 = t487 then ((barscanlaw47_examples.f k).bind fun t488 => (some t488)) else (none)))) else (none)))) else (none)) else (none)) else (none)) else (none))))))
theorem barscanlaw47_FontGlyphs.mono : ∀ a0 a1 k, LeO (barscanlaw47_FontGlyphs.f k a0 a1) (barscanlaw47_FontGlyphs.f (k + 1) a0 a1) := by
 intro a0 a1 k
 unfold barscanlaw47_FontGlyphs.f
 repeat' first
   | (with_reducible exact barscanlaw47_examples.mono _)
   | (with_reducible exact barscanlaw47_same.mono _ _ _ _ _ _ _)
   | (with_reducible exact barscanref47_Chars.mono _)
   | (with_reducible exact barscanref47_Closest.mono _)
   | (with_reducible exact barscanref47_Distance.mono _ _ _)
   | (with_reducible exact barscanref47_Glyph.mono _ _)
   | (with_reducible exact font_Chars.mono _)
   | (with_reducible exact font_Closest.mono _)
   | (with_reducible exact font_Distance.mono _ _ _)
   | (with_reducible exact font_Glyph.mono _ _)
   | (with_reducible exact LeO.refl _)
   | (with_reducible exact LeO.none _)
   | (with_reducible refine LeO.ite ?_ ?_)
   | (with_reducible refine LeO.bind ?_ (fun _ => ?_))
   | exact barscanlaw47_examples.mono _
   | exact barscanlaw47_same.mono _ _ _ _ _ _ _
   | exact barscanref47_Chars.mono _
   | exact barscanref47_Closest.mono _
   | exact barscanref47_Distance.mono _ _ _
   | exact barscanref47_Glyph.mono _ _
   | exact font_Chars.mono _
   | exact font_Closest.mono _
   | exact font_Distance.mono _ _ _
   | exact font_Glyph.mono _ _
   | exact LeO.none _
   | refine LeO.ite ?_ ?_
   | refine LeO.bind ?_ (fun _ => ?_)
def barscanlaw47_FontGlyphs.T5 : Bool × List (List Nat × List Nat) := (true, [([], []), ([], []), ([0, 1], [0, 1]), ([2, 2], [2]), ([3], [3]), ([3], [3]), ([4, 5, 3], [3, 4, 5]), ([3, 6], [3, 6]), ([7, 3], [7]), ([8], [8]), ([8], [8]), ([9, 10, 8], [8, 9, 10]), ([8, 11], [8, 11]), ([12, 8], [12]), ([13], [13]), ([13], [13]), ([14, 15, 13], [13, 14, 15]), ([13, 16], [13, 16]), ([17, 13], [17]), ([18, 18], [18]), ([19, 18], [18, 19]), ([19, 18], [18]), ([21, 18], [18, 21]), ([20, 22, 18], [18, 20, 22]), ([18, 23], [18, 23]), ([24, 21], [24]), ([25, 25], [25]), ([26, 25], [25]), ([26, 27, 25], [25, 26, 27]), ([25, 28], [25, 28]), ([29, 27], [29]), ([30, 30], [30]), ([30, 31], [30, 31]), ([32, 31, 0, 1, 2, 3, 4, 5, 6, 7, 8, 9, 10, 11, 12, 13, 14, 15, 16, 17, 18, 19, 20, 21, 22, 23, 24, 25, 26, 27, 28, 29, 30, 31, 32], [32])])
def barscanlaw47_FontGlyphs.B5 : List Nat := [0, 0, 3, 7, 15, 15, 63, 127, 255, 511, 511, 2047, 4095, 8191, 16383, 16383, 65535, 131071, 262143, 524287, 1048575, 1048575, 3145727, 8388607, 16777215, 33554431, 67108863, 134217727, 268435455, 536870911, 1073741823, 2147483647, 4294967295, 8589934591]
theorem barscanlaw47_FontGlyphs.tab5 : rtab .any (opsOf Try.f6 5) = barscanlaw47_FontGlyphs.T5 := by kernel_rfl
theorem barscanlaw47_FontGlyphs.bits5 : waitsOk barscanlaw47_FontGlyphs.T5.2 barscanlaw47_FontGlyphs.B5 = true := by kernel_rfl
set_option maxHeartbeats 8000000 in
set_option maxRecDepth 100000 in
theorem barscanlaw47_FontGlyphs.calls (k : Nat) (a0 : Int) (a1 : Int) (r : Bool) (w : World) (h : barscanlaw47_FontGlyphs.f k a0 a1 = some r) :
  Calls Try.prog 6 #[.int .u8 a0, .int .u8 a1] w fun e w' => e = .returned (.bool r) ∧ Below w.heap.size w w' := by
 have hu24 := Try.underlying24
 have HB := Aside0.mk (Below.refl w.heap.size w)
 have H : ((font_Glyph.f k a0).bind fun bt461 => ((barscanref47_Glyph.f k a0).bind fun bt468 => ((font_Distance.f k a0 a1).bind fun bt475 => ((barscanref47_Distance.f k a0 a1).bind fun bt477 => ((barscanlaw47_same.f k bt461.1 bt461.2.1 bt461.2.2.1 bt468.1 bt468.2.1 bt468.2.2.1).bind fun t479 => (if t479 = true then (if bt461.2.2.2 = bt468.2.2.2 then (if bt475.1 = bt477.1 then (if bt475.2 = bt477.2 then ((font_Chars.f k).bind fun t480 => ((barscanref47_Chars.f k).bind fun t483 => (if (strOfNums t480).toList = (strOfNums t483).toList then ((font_Closest.f k).bind fun t486 => ((barscanref47_Closest.f k).bind fun t487 => (if t486 = t487 then ((barscanlaw47_examples.f k).bind fun t488 => (some t488)) else (none)))) else (none)))) else (none)) else (none)) else (none)) else (none))))))) = some r := h
 clear h
 replace H := Option.bind_eq_some_iff.mp H
 obtain ⟨⟨t461, t462, t463, t466⟩, A30, H⟩ := H
 replace H : ((barscanref47_Glyph.f k a0).bind fun bt468 => ((font_Distance.f k a0 a1).bind fun bt475 => ((barscanref47_Distance.f k a0 a1).bind fun bt477 => ((barscanlaw47_same.f k t461 t462 t463 bt468.1 bt468.2.1 bt468.2.2.1).bind fun t479 => (if t479 = true then (if t466 = bt468.2.2.2 then (if bt475.1 = bt477.1 then (if bt475.2 = bt477.2 then ((font_Chars.f k).bind fun t480 => ((barscanref47_Chars.f k).bind fun t483 => (if (strOfNums t480).toList = (strOfNums t483).toList then ((font_Closest.f k).bind fun t486 => ((barscanref47_Closest.f k).bind fun t487 => (if t486 = t487 then ((barscanlaw47_examples.f k).bind fun t488 => (some t488)) else (none)))) else (none)))) else (none)) else (none)) else (none)) else (none)))))) = some r := H
 have A3 := Aside0.mk A30
 clear A30
 replace H := Option.bind_eq_some_iff.mp H
 obtain ⟨⟨t468, t469, t470, t473⟩, A40, H⟩ := H
 replace H : ((font_Distance.f k a0 a1).bind fun bt475 => ((barscanref47_Distance.f k a0 a1).bind fun bt477 => ((barscanlaw47_same.f k t461 t462 t463 t468 t469 t470).bind fun t479 => (if t479 = true then (if t466 = t473 then (if bt475.1 = bt477.1 then (if bt475.2 = bt477.2 then ((font_Chars.f k).bind fun t480 => ((barscanref47_Chars.f k).bind fun t483 => (if (strOfNums t480).toList = (strOfNums t483).toList then ((font_Closest.f k).bind fun t486 => ((barscanref47_Closest.f k).bind fun t487 => (if t486 = t487 then ((barscanlaw47_examples.f k).bind fun t488 => (some t488)) else (none)))) else (none)))) else (none)) else (none)) else (none)) else (none))))) = some r := H
 have A4 := Aside0.mk A40
 clear A40
 replace H := Option.bind_eq_some_iff.mp H
 obtain ⟨⟨t475, t476⟩, A50, H⟩ := H
 replace H : ((barscanref47_Distance.f k a0 a1).bind fun bt477 => ((barscanlaw47_same.f k t461 t462 t463 t468 t469 t470).bind fun t479 => (if t479 = true then (if t466 = t473 then (if t475 = bt477.1 then (if t476 = bt477.2 then ((font_Chars.f k).bind fun t480 => ((barscanref47_Chars.f k).bind fun t483 => (if (strOfNums t480).toList = (strOfNums t483).toList then ((font_Closest.f k).bind fun t486 => ((barscanref47_Closest.f k).bind fun t487 => (if t486 = t487 then ((barscanlaw47_examples.f k).bind fun t488 => (some t488)) else (none)))) else (none)))) else (none)) else (none)) else (none)) else (none)))) = some r := H
 have A5 := Aside0.mk A50
 clear A50
 replace H := Option.bind_eq_some_iff.mp H
 obtain ⟨⟨t477, t478⟩, A60, H⟩ := H
 replace H : ((barscanlaw47_same.f k t461 t462 t463 t468 t469 t470).bind fun t479 => (if t479 = true then (if t466 = t473 then (if t475 = t477 then (if t476 = t478 then ((font_Chars.f k).bind fun t480 => ((barscanref47_Chars.f k).bind fun t483 => (if (strOfNums t480).toList = (strOfNums t483).toList then ((font_Closest.f k).bind fun t486 => ((barscanref47_Closest.f k).bind fun t487 => (if t486 = t487 then ((barscanlaw47_examples.f k).bind fun t488 => (some t488)) else (none)))) else (none)))) else (none)) else (none)) else (none)) else (none))) = some r := H
 have A6 := Aside0.mk A60
 clear A60
 replace H := Option.bind_eq_some_iff.mp H
 obtain ⟨t479, A70, H⟩ := H
 replace H : (if t479 = true then (if t466 = t473 then (if t475 = t477 then (if t476 = t478 then ((font_Chars.f k).bind fun t480 => ((barscanref47_Chars.f k).bind fun t483 => (if (strOfNums t480).toList = (strOfNums t483).toList then ((font_Closest.f k).bind fun t486 => ((barscanref47_Closest.f k).bind fun t487 => (if t486 = t487 then ((barscanlaw47_examples.f k).bind fun t488 => (some t488)) else (none)))) else (none)))) else (none)) else (none)) else (none)) else (none)) = some r := H
 have A7 := Aside0.mk A70
 clear A70
 by_cases c8 : t479 = true
 ·subst c8
  have H1 : (if t466 = t473 then (if t475 = t477 then (if t476 = t478 then ((font_Chars.f k).bind fun t480 => ((barscanref47_Chars.f k).bind fun t483 => (if (strOfNums t480).toList = (strOfNums t483).toList then ((font_Closest.f k).bind fun t486 => ((barscanref47_Closest.f k).bind fun t487 => (if t486 = t487 then ((barscanlaw47_examples.f k).bind fun t488 => (some t488)) else (none)))) else (none)))) else (none)) else (none)) else (none)) = some r := by rw [if_pos rfl] at H; exact H
  clear H
  have H := H1
  clear H1
  by_cases c9 : t466 = t473
  ·rw [if_pos c9] at H
   have c9b0 : (t466 == t473) = true := beq_iff_eq.mpr c9
   have c9b1 : (t466 != t473) = false := bne_eq_false_iff_eq.mpr c9
   clear c9
   by_cases c10 : t475 = t477
   ·rw [if_pos c10] at H
    have c10b0 : (t475 == t477) = true := beq_iff_eq.mpr c10
    have c10b1 : (t475 != t477) = false := bne_eq_false_iff_eq.mpr c10
    clear c10
    by_cases c11 : t476 = t478
    ·rw [if_pos c11] at H
     have c11b0 : (t476 == t478) = true := beq_iff_eq.mpr c11
     have c11b1 : (t476 != t478) = false := bne_eq_false_iff_eq.mpr c11
     clear c11
     replace H := Option.bind_eq_some_iff.mp H
     obtain ⟨t480, A120, H⟩ := H
     replace H : ((barscanref47_Chars.f k).bind fun t483 => (if (strOfNums t480).toList = (strOfNums t483).toList then ((font_Closest.f k).bind fun t486 => ((barscanref47_Closest.f k).bind fun t487 => (if t486 = t487 then ((barscanlaw47_examples.f k).bind fun t488 => (some t488)) else (none)))) else (none))) = some r := H
     have A12 := Aside0.mk A120
     clear A120
     replace H := Option.bind_eq_some_iff.mp H
     obtain ⟨t483, A130, H⟩ := H
     replace H : (if (strOfNums t480).toList = (strOfNums t483).toList then ((font_Closest.f k).bind fun t486 => ((barscanref47_Closest.f k).bind fun t487 => (if t486 = t487 then ((barscanlaw47_examples.f k).bind fun t488 => (some t488)) else (none)))) else (none)) = some r := H
     have A13 := Aside0.mk A130
     clear A130
     by_cases c14 : (strOfNums t480).toList = (strOfNums t483).toList
     ·rw [if_pos c14] at H
      have c14b0 : ((strOfNums t480).toList == (strOfNums t483).toList) = true := beq_iff_eq.mpr c14
      have c14b1 : ((strOfNums t480).toList != (strOfNums t483).toList) = false := bne_eq_false_iff_eq.mpr c14
      clear c14
      replace H := Option.bind_eq_some_iff.mp H
      obtain ⟨t486, A150, H⟩ := H
      replace H : ((barscanref47_Closest.f k).bind fun t487 => (if t486 = t487 then ((barscanlaw47_examples.f k).bind fun t488 => (some t488)) else (none))) = some r := H
      have A15 := Aside0.mk A150
      clear A150
      replace H := Option.bind_eq_some_iff.mp H
      obtain ⟨t487, A160, H⟩ := H
      replace H : (if t486 = t487 then ((barscanlaw47_examples.f k).bind fun t488 => (some t488)) else (none)) = some r := H
      have A16 := Aside0.mk A160
      clear A160
      by_cases c17 : t486 = t487
      ·rw [if_pos c17] at H
       have c17b0 : (t486 == t487) = true := beq_iff_eq.mpr c17
       have c17b1 : (t486 != t487) = false := bne_eq_false_iff_eq.mpr c17
       clear c17
       replace H := Option.bind_eq_some_iff.mp H
       obtain ⟨t488, A180, H⟩ := H
       replace H : (some t488) = some r := H
       have A18 := Aside0.mk A180
       clear A180
       obtain rfl := Option.some.inj H
       go_enter Try.func6, Try.ntmps6
       try go_wp2_with (first | ((with_reducible refine gate_callee (f := 7) rfl ?_); refine goesL_ (some 15) rfl rfl Try.func7 (by kernel_rfl) rfl #[.int .u8 a0] rfl mapx ?_; (with_reducible refine (font_Glyph.calls k a0 t461 t462 t463 t466 _ A3.out).mono ?_); rintro e w19 ⟨v464, rfl, ho0, hb⟩; refine ⟨_, rfl, ?_⟩; have n0_ := Aside0.mk (Kd.R_lower ho0 (below_size (hb0 HB))); have n1_ := Aside0.mk (below_step (hb0 HB) hb); clear HB; have HO465 := n0_; have HB := n1_; clear n0_ n1_; (try clear hb); (try clear hb2); (try clear hk); (try clear hi); (try clear ho0)) | ((with_reducible refine gate_dst (N := 5) rfl ?_); refine box_event ?hg (N := 5) ?hd (cs := #[.int .i64 0, .int .i64 0, .slice none 0 0]) (t := 24) ?hr ?_; (case hd => rfl); (case hg => rfl); (case hr => first | (go_simp; done) | (go_simp; rfl)); intro gb467 hg w20 hbox hb; have n0_ := Aside0.mk (Kd.R_below (rkx HO465) hb); have n1_ := Aside0.mk (below_step (hb0 HB) hb); have n2_ := Aside0.mk (hbox); have n3_ := Aside0.mk ((by rw [hg]; exact (below_size (hb0 HB)) : w.heap.size ≤ gb467)); have n4_ := Aside0.mk ((by rw [hg]; exact (below_size (hb0 HB)) : w.heap.size ≤ gb467)); clear HO465; clear HB; have HO465 := n0_; have HB := n1_; have BK467 := n2_; have GW467 := n3_; have GE467 := n4_; clear n0_ n1_ n2_ n3_ n4_; clear hb hbox hg; have hcz21_0 : w20.cell? ⟨gb467, 0, none⟩ = some (.int .i64 0) := (blk_cell BK467.out 0).trans rfl; have hcz21_1 : w20.cell? ⟨gb467, 1, none⟩ = some (.int .i64 0) := (blk_cell BK467.out 1).trans rfl; have hcz21_2 : w20.cell? ⟨gb467, 2, none⟩ = some (.slice none 0 0) := (blk_cell BK467.out 2).trans rfl; have hfz21_0 := blk_frozen BK467.out 0; have hfz21_1 := blk_frozen BK467.out 1; have hfz21_2 := blk_frozen BK467.out 2; obtain ⟨Ao22, co22, eo22⟩ := Kd.R_slice HO465.out; subst eo22) | ((with_reducible refine gate_callee (f := 19) rfl ?_); refine goesL_ (some 20) rfl rfl Try.func19 (by kernel_rfl) rfl #[.int .u8 a0] rfl mapx ?_; (with_reducible refine (barscanref47_Glyph.calls k a0 t468 t469 t470 t473 _ A4.out).mono ?_); rintro e w23 ⟨v471, rfl, ho0, hb⟩; refine ⟨_, rfl, ?_⟩; have n0_ := Aside0.mk (Kd.R_elder' (by refine rkt ?_; exact (far3 HO465 BK467)) (Kd.R_base ho0) hb); have n1_ := Aside0.mk (Kd.R_lower (Kd.R_new' ho0 (Kd.R_lt (by refine rkt ?_; exact (far3 HO465 BK467)))) (below_size (hb1 HB GE467))); have n2_ := Aside0.mk (blk_below (g := gb467) (o := .cells #[.int .i64 t461, .int .i64 t462, .slice Ao22 t463.length co22] 24 (0, 0)) (by refine bkt ?_; refine blk_put (cs := #[.int .i64 t461, .int .i64 t462, .slice none 0 0]) ?_ 2 _ rfl; refine bkt ?_; refine blk_put (cs := #[.int .i64 t461, .int .i64 0, .slice none 0 0]) ?_ 1 _ rfl; refine bkt ?_; refine blk_put (cs := #[.int .i64 0, .int .i64 0, .slice none 0 0]) ?_ 0 _ rfl; refine bkt ?_; exact BK467.out) hb); have n3_ := Aside0.mk (below_step (hb1 HB GE467) hb); clear HO465; clear BK467; clear HB; have HO465 := n0_; have HO472 := n1_; have BK467 := n2_; have HB := n3_; clear n0_ n1_ n2_ n3_; (try clear hb); (try clear hb2); (try clear hk); (try clear hi); (try clear ho0)) | ((with_reducible refine gate_dst (N := 7) rfl ?_); refine box_event ?hg (N := 7) ?hd (cs := #[.int .i64 0, .int .i64 0, .slice none 0 0]) (t := 24) ?hr ?_; (case hd => rfl); (case hg => rfl); (case hr => first | (go_simp; done) | (go_simp; rfl)); intro gb474 hg w24 hbox hb; have n0_ := Aside0.mk (Kd.R_below (rkx HO465) hb); have n1_ := Aside0.mk (Kd.R_below (rkx HO472) hb); have n2_ := Aside0.mk (blk_below (bkx BK467) hb); have n3_ := Aside0.mk (below_step (hb1 HB GE467) hb); have n4_ := Aside0.mk (hbox); have n5_ := Aside0.mk ((by rw [hg]; exact (below_size (hb1 HB GE467)) : w.heap.size ≤ gb474)); have n6_ := Aside0.mk ((by rw [hg]; exact (below_size (hb1 HB GE467)) : w.heap.size ≤ gb474)); have n7_ := Aside0.mk (nel hg BK467 : gb467 ≠ gb474); have n8_ := Aside0.mk (neg hg BK467 : gb474 ≠ gb467); clear HO465; clear HO472; clear BK467; clear HB; have HO465 := n0_; have HO472 := n1_; have BK467 := n2_; have HB := n3_; have BK474 := n4_; have GW474 := n5_; have GE474 := n6_; have NB467_474 := n7_; have NB474_467 := n8_; clear n0_ n1_ n2_ n3_ n4_ n5_ n6_ n7_ n8_; clear hb hbox hg; have hnb25 := NB474_467.out; have hnc25 := NB467_474.out; have hcz26_0 : w24.cell? ⟨gb474, 0, none⟩ = some (.int .i64 0) := (blk_cell BK474.out 0).trans rfl; have hcz26_1 : w24.cell? ⟨gb474, 1, none⟩ = some (.int .i64 0) := (blk_cell BK474.out 1).trans rfl; have hcz26_2 : w24.cell? ⟨gb474, 2, none⟩ = some (.slice none 0 0) := (blk_cell BK474.out 2).trans rfl; have hfz26_0 := blk_frozen BK474.out 0; have hfz26_1 := blk_frozen BK474.out 1; have hfz26_2 := blk_frozen BK474.out 2; obtain ⟨Ao27, co27, eo27⟩ := Kd.R_slice HO472.out; subst eo27) | ((with_reducible refine gate_callee (f := 10) rfl ?_); refine goesL_ (some 26) rfl rfl Try.func10 (by kernel_rfl) rfl #[.int .u8 a0, .int .u8 a1] rfl mapx ?_; (with_reducible refine (font_Distance.calls k a0 a1 t475 t476 _ A5.out).mono ?_); rintro e w28 ⟨rfl, hb⟩; refine ⟨_, rfl, ?_⟩; have n0_ := Aside0.mk (Kd.R_below (by refine rkt ?_; exact (far3 HO465 BK474)) hb); have n1_ := Aside0.mk (Kd.R_below (by refine rkt ?_; exact (far3 HO472 BK474)) hb); have n2_ := Aside0.mk (blk_below (g := gb467) (o := .cells #[.int .i64 t461, .int .i64 t462, .slice Ao22 t463.length co22] 24 (0, 0)) (bky BK467 NB467_474) hb); have n3_ := Aside0.mk (blk_below (g := gb474) (o := .cells #[.int .i64 t468, .int .i64 t469, .slice Ao27 t470.length co27] 24 (0, 0)) (by refine bkt ?_; refine blk_put (cs := #[.int .i64 t468, .int .i64 t469, .slice none 0 0]) ?_ 2 _ rfl; refine bkt ?_; refine blk_put (cs := #[.int .i64 t468, .int .i64 0, .slice none 0 0]) ?_ 1 _ rfl; refine bkt ?_; refine blk_put (cs := #[.int .i64 0, .int .i64 0, .slice none 0 0]) ?_ 0 _ rfl; refine bkt ?_; exact BK474.out) hb); have n4_ := Aside0.mk (below_step (hb2 HB GE467 GE474) hb); clear HO465; clear HO472; clear BK467; clear BK474; clear HB; have HO465 := n0_; have HO472 := n1_; have BK467 := n2_; have BK474 := n3_; have HB := n4_; clear n0_ n1_ n2_ n3_ n4_; (try clear hb); (try clear hb2); (try clear hk); (try clear hi)) | ((with_reducible refine gate_callee (f := 20) rfl ?_); refine goesL_ (some 32) rfl rfl Try.func20 (by kernel_rfl) rfl #[.int .u8 a0, .int .u8 a1] rfl mapx ?_; (with_reducible refine (barscanref47_Distance.calls k a0 a1 t477 t478 _ A6.out).mono ?_); rintro e w29 ⟨rfl, hb⟩; refine ⟨_, rfl, ?_⟩; have n0_ := Aside0.mk (Kd.R_below (rkx HO465) hb); have n1_ := Aside0.mk (Kd.R_below (rkx HO472) hb); have n2_ := Aside0.mk (blk_below (bkx BK467) hb); have n3_ := Aside0.mk (blk_below (bkx BK474) hb); have n4_ := Aside0.mk (below_step (hb2 HB GE467 GE474) hb); clear HO465; clear HO472; clear BK467; clear BK474; clear HB; have HO465 := n0_; have HO472 := n1_; have BK467 := n2_; have BK474 := n3_; have HB := n4_; clear n0_ n1_ n2_ n3_ n4_; (try clear hb); (try clear hb2); (try clear hk); (try clear hi)))
       have n0_ := Aside0.mk (Kd.R_drew HO465.out)
       have n1_ := Aside0.mk (Kd.R_drew HO472.out)
       have n2_ := Aside0.mk (blk_drew BK467.out)
       have n3_ := Aside0.mk (blk_drew BK474.out)
       have n4_ := Aside0.mk (below_drew1 HB.out)
       clear HO465
       clear HO472
       clear BK467
       clear BK474
       clear HB
       have HO465 := n0_
       have HO472 := n1_
       have BK467 := n2_
       have BK474 := n3_
       have HB := n4_
       clear n0_ n1_ n2_ n3_ n4_
       refine start_ (n := 34) (S := fun w' => w'.cell? ⟨gb467, 0, none⟩ = some (.int .i64 t461) ∧ w'.cell? ⟨gb467, 1, none⟩ = some (.int .i64 t462) ∧ w'.cell? ⟨gb467, 2, none⟩ = some (.slice Ao22 t463.length co22) ∧ w'.cell? ⟨gb474, 0, none⟩ = some (.int .i64 t468) ∧ w'.cell? ⟨gb474, 1, none⟩ = some (.int .i64 t469) ∧ w'.cell? ⟨gb474, 2, none⟩ = some (.slice Ao27 t470.length co27)) (ds := []) (bA 34 0) (by kernel_rfl) rfl rfl ⟨(blk_cell BK467.out 0).trans rfl, (blk_cell BK467.out 1).trans rfl, (blk_cell BK467.out 2).trans rfl, (blk_cell BK474.out 0).trans rfl, (blk_cell BK474.out 1).trans rfl, (blk_cell BK474.out 2).trans rfl⟩ (fun hHeld => ?_); refine with_tabW barscanlaw47_FontGlyphs.tab5 barscanlaw47_FontGlyphs.bits5 (fun HT_ HW_ => ?_)
       generalize w29.drew = w30 at HO465 HO472 BK467 BK474 HB hHeld ⊢
       refine tk HT_ HW_ hHeld 0 35 ?_
       refine tk HT_ HW_ hHeld 1 36 ?_
       refine one_ (i := 2) (N := some 37) (bA 34 7) rfl rfl (one_of HT_.out (by kernel_rfl)) (by decide) (fun K hK => ?_)
       refine goes_ Try.func16 (by kernel_rfl) rfl #[.agg #[.int .i64 t461, .int .i64 t462, .slice Ao22 t463.length co22], .agg #[.int .i64 t468, .int .i64 t469, .slice Ao27 t470.length co27]] (by rfl) rfl rfl mapx ?_
       with_reducible refine (barscanlaw47_same.calls k t461 t462 _ _ t463 t468 t469 _ _ t470 true _ ?side1 ?side2 ?side3 ?side4 A7.out).mono ?_
       (case side1 => repeat (first | exact (Kd.R_reads' HO465.out).2.2 | (with_reducible refine Kd.C_alloc ?_ _) | (with_reducible refine Kd.C_drewN ?_ _) | (with_reducible refine Kd.C_drew ?_)))
       (case side2 => exact (Kd.R_reads' HO465.out).2.1)
       (case side3 => repeat (first | exact (Kd.R_reads' HO472.out).2.2 | (with_reducible refine Kd.C_alloc ?_ _) | (with_reducible refine Kd.C_drewN ?_ _) | (with_reducible refine Kd.C_drew ?_)))
       (case side4 => exact (Kd.R_reads' HO472.out).2.1)
       rintro e w31 ⟨rfl, hb⟩
       refine ⟨_, rfl, ?_⟩
       have n0_ := Aside0.mk (Kd.R_below (rkx HO465) hb)
       have n1_ := Aside0.mk (Kd.R_below (rkx HO472) hb)
       have n2_ := Aside0.mk (blk_below (bkx BK467) hb)
       have n3_ := Aside0.mk (blk_below (bkx BK474) hb)
       have n4_ := Aside0.mk (below_step (hb2 HB GE467 GE474) hb)
       clear HO465
       clear HO472
       clear BK467
       clear BK474
       clear HB
       have HO465 := n0_
       have HO472 := n1_
       have BK467 := n2_
       have BK474 := n3_
       have HB := n4_
       clear n0_ n1_ n2_ n3_ n4_
       (try clear hb)
       (try clear hb2)
       (try clear hk)
       (try clear hi)
       refine hK.out _ _ ⟨(blk_cell BK467.out 0).trans rfl, (blk_cell BK467.out 1).trans rfl, (blk_cell BK467.out 2).trans rfl, (blk_cell BK474.out 0).trans rfl, (blk_cell BK474.out 1).trans rfl, (blk_cell BK474.out 2).trans rfl⟩ (fun hHeld => ?_)
       clear hK K
       refine norm_ (a' := ?_) ?_ ?_
       rotate_left
       ·show Act.put _ (some 37) _ = _
        simp only [Act.put, List.setIfInBounds_toArray, List.set_cons_zero, List.set_cons_succ, i64_w, i32_w]
        rfl
       refine pt HT_ 3 38 ?_
       refine pt HT_ 4 39 ?_
       refine pt HT_ 5 40 ?_
       refine pt HT_ 6 41 ?_
       refine pt HT_ 7 42 ?_
       refine pt HT_ 8 43 ?_
       refine pt HT_ 9 44 ?_
       refine pt HT_ 10 45 ?_
       refine pt HT_ 11 46 ?_
       refine pt HT_ 12 47 ?_
       refine pt HT_ 13 48 ?_
       refine pt HT_ 14 49 ?_
       refine pt HT_ 15 50 ?_
       refine pt HT_ 16 51 ?_
       refine pt HT_ 17 52 ?_
       refine pt HT_ 18 53 ?_
       refine one_ (i := 19) (N := some 54) (bA 34 1048575) rfl rfl (one_of HT_.out (by kernel_rfl)) (by decide) (fun K hK => ?_)
       refine goes_ Try.func21 (by kernel_rfl) rfl #[] (by rfl) rfl rfl mapx ?_
       with_reducible refine (font_Chars.calls k  t480 _ A12.out).mono ?_
       rintro e w32 ⟨v481, rfl, ho0, hb⟩
       refine ⟨_, rfl, ?_⟩
       have n0_ := Aside0.mk (Kd.R_below (rkx HO465) hb)
       have n1_ := Aside0.mk (Kd.R_below (rkx HO472) hb)
       have n2_ := Aside0.mk (Kd.R_lower ho0 (below_size (hb2 HB GE467 GE474)))
       have n3_ := Aside0.mk (blk_below (bkx BK467) hb)
       have n4_ := Aside0.mk (blk_below (bkx BK474) hb)
       have n5_ := Aside0.mk (below_step (hb2 HB GE467 GE474) hb)
       clear HO465
       clear HO472
       clear BK467
       clear BK474
       clear HB
       have HO465 := n0_
       have HO472 := n1_
       have HO482 := n2_
       have BK467 := n3_
       have BK474 := n4_
       have HB := n5_
       clear n0_ n1_ n2_ n3_ n4_ n5_
       (try clear hb)
       (try clear hb2)
       (try clear hk)
       (try clear hi)
       (try clear ho0)
       refine hK.out _ _ ⟨(blk_cell BK467.out 0).trans rfl, (blk_cell BK467.out 1).trans rfl, (blk_cell BK467.out 2).trans rfl, (blk_cell BK474.out 0).trans rfl, (blk_cell BK474.out 1).trans rfl, (blk_cell BK474.out 2).trans rfl⟩ (fun hHeld => ?_)
       clear hK K
       refine norm_ (a' := ?_) ?_ ?_
       rotate_left
       ·show Act.put _ (some 54) _ = _
        simp only [Act.put, List.setIfInBounds_toArray, List.set_cons_zero, List.set_cons_succ, i64_w, i32_w]
        rfl
       refine join_ (σ := Value) 11 (bA 34 8388607) (fun s_ => [(55, .string (strOfNums t480)), (56, s_), (57, .string (strOfNums t483))]) (fun s_ w' => (w'.cell? ⟨gb467, 0, none⟩ = some (.int .i64 t461) ∧ w'.cell? ⟨gb467, 1, none⟩ = some (.int .i64 t462) ∧ w'.cell? ⟨gb467, 2, none⟩ = some (.slice Ao22 t463.length co22) ∧ w'.cell? ⟨gb474, 0, none⟩ = some (.int .i64 t468) ∧ w'.cell? ⟨gb474, 1, none⟩ = some (.int .i64 t469) ∧ w'.cell? ⟨gb474, 2, none⟩ = some (.slice Ao27 t470.length co27)) ∧ (Kd.R Kd.bool 4 w' w.heap.size (fun k_ => some k_ ≠ (.slice Ao27 t470.length co27 : Value).ownBlock) (.slice Ao22 t463.length co22) t463) ∧ (Kd.R Kd.bool 4 w' w.heap.size (fun k_ => some k_ ≠ (.slice Ao22 t463.length co22 : Value).ownBlock) (.slice Ao27 t470.length co27) t470) ∧ (Kd.R (Kd.int .u8) 5 w' w.heap.size (fun k_ => some k_ ≠ (s_ : Value).ownBlock) v481 t480) ∧ (Kd.R (Kd.int .u8) 5 w' w.heap.size (fun k_ => some k_ ≠ (v481 : Value).ownBlock) s_ t483) ∧ (w'.heap[gb467]? = some (.cells #[.int .i64 t461, .int .i64 t462, .slice Ao22 t463.length co22] 24 (0, 0))) ∧ (w'.heap[gb474]? = some (.cells #[.int .i64 t468, .int .i64 t469, .slice Ao27 t470.length co27] 24 (0, 0))) ∧ (Below w.heap.size w w')) ?_ ?_
       rotate_left
       ·intro hCont
        refine two_ (i := 20) (j := 21) (Ni := some 55) (Nj := some 56) (bA 34 2097151) (bA 34 3145727) rfl rfl rfl rfl (two_of HT_.out (by kernel_rfl)) (by decide) (by decide) (fun K hK => ?_) (fun K hK => ?_)
        ·skip
         have hcv33 := own_string (P := Try.prog) Try.underlying41 Try.underlying5 Try.underlying9 (Kd.own_of_R HO482.out)
         refine value_ (w1 := ?_) (v := ?_) (by rfl) rfl ?_ ?_
         rotate_left 2
         ·go_simp
          constructor
          ·rfl
          ·rfl
         clear hcv33
         refine hK.out _ _ ⟨(blk_cell BK467.out 0).trans rfl, (blk_cell BK467.out 1).trans rfl, (blk_cell BK467.out 2).trans rfl, (blk_cell BK474.out 0).trans rfl, (blk_cell BK474.out 1).trans rfl, (blk_cell BK474.out 2).trans rfl⟩ (fun hHeld => ?_)
         clear hK K
         refine norm_ (a' := ?_) ?_ ?_
         rotate_left
         ·show Act.put _ (some 55) _ = _
          simp only [Act.put, List.setIfInBounds_toArray, List.set_cons_zero, List.set_cons_succ, i64_w, i32_w]
          rfl
         refine one_ (i := 21) (N := some 56) (bA 34 4194303) rfl rfl (one_of HT_.out (by kernel_rfl)) (by decide) (fun K hK => ?_)
         refine goes_ Try.func22 (by kernel_rfl) rfl #[] (by rfl) rfl rfl mapx ?_
         with_reducible refine (barscanref47_Chars.calls k  t483 _ A13.out).mono ?_
         rintro e w34 ⟨v484, rfl, ho0, hb⟩
         refine ⟨_, rfl, ?_⟩
         have n0_ := Aside0.mk (Kd.R_below (rkx HO465) hb)
         have n1_ := Aside0.mk (Kd.R_below (rkx HO472) hb)
         have n2_ := Aside0.mk (Kd.R_elder' (rkx HO482) (Kd.R_base ho0) hb)
         have n3_ := Aside0.mk (Kd.R_lower (Kd.R_new' ho0 (Kd.R_lt (rkx HO482))) (below_size (hb2 HB GE467 GE474)))
         have n4_ := Aside0.mk (blk_below (bkx BK467) hb)
         have n5_ := Aside0.mk (blk_below (bkx BK474) hb)
         have n6_ := Aside0.mk (below_step (hb2 HB GE467 GE474) hb)
         clear HO465
         clear HO472
         clear HO482
         clear BK467
         clear BK474
         clear HB
         have HO465 := n0_
         have HO472 := n1_
         have HO482 := n2_
         have HO485 := n3_
         have BK467 := n4_
         have BK474 := n5_
         have HB := n6_
         clear n0_ n1_ n2_ n3_ n4_ n5_ n6_
         (try clear hb)
         (try clear hb2)
         (try clear hk)
         (try clear hi)
         (try clear ho0)
         refine hK.out _ _ ⟨(blk_cell BK467.out 0).trans rfl, (blk_cell BK467.out 1).trans rfl, (blk_cell BK467.out 2).trans rfl, (blk_cell BK474.out 0).trans rfl, (blk_cell BK474.out 1).trans rfl, (blk_cell BK474.out 2).trans rfl⟩ (fun hHeld => ?_)
         clear hK K
         refine norm_ (a' := ?_) ?_ ?_
         rotate_left
         ·show Act.put _ (some 56) _ = _
          simp only [Act.put, List.setIfInBounds_toArray, List.set_cons_zero, List.set_cons_succ, i64_w, i32_w]
          rfl
         refine one_ (i := 22) (N := some 57) (bA 34 8388607) rfl rfl (one_of HT_.out (by kernel_rfl)) (by decide) (fun K hK => ?_)
         have hcv35 := own_string (P := Try.prog) Try.underlying41 Try.underlying5 Try.underlying9 (Kd.own_of_R HO485.out)
         refine value_ (w1 := ?_) (v := ?_) (by rfl) rfl ?_ ?_
         rotate_left 2
         ·go_simp
          constructor
          ·rfl
          ·rfl
         clear hcv35
         refine hK.out _ _ ⟨(blk_cell BK467.out 0).trans rfl, (blk_cell BK467.out 1).trans rfl, (blk_cell BK467.out 2).trans rfl, (blk_cell BK474.out 0).trans rfl, (blk_cell BK474.out 1).trans rfl, (blk_cell BK474.out 2).trans rfl⟩ (fun hHeld => ?_)
         clear hK K
         refine norm_ (a' := ?_) ?_ ?_
         rotate_left
         ·show Act.put _ (some 57) _ = _
          simp only [Act.put, List.setIfInBounds_toArray, List.set_cons_zero, List.set_cons_succ, i64_w, i32_w]
          rfl
         exact norm_ (by simp only [putAll, Act.put, List.setIfInBounds_toArray, List.set_cons_zero, List.set_cons_succ]) (hCont (v484) _ ⟨hHeld, (by refine rkt ?_; exact Kd.R_mono HO465.out (fun _ hk => hk.2)), (by refine rkt ?_; exact Kd.R_mono HO472.out (fun _ hk => hk.2)), (by refine rkt ?_; exact Kd.R_mono HO482.out (fun _ hk => hk.2)), (by refine rkt ?_; exact Kd.R_mono HO485.out (fun _ hk => hk.2)), (bkx BK467), (bkx BK474), (hb2 HB GE467 GE474)⟩)
        ·skip
         refine goes_ Try.func22 (by kernel_rfl) rfl #[] (by rfl) rfl rfl mapx ?_
         with_reducible refine (barscanref47_Chars.calls k  t483 _ A13.out).mono ?_
         rintro e w33 ⟨v484, rfl, ho0, hb⟩
         refine ⟨_, rfl, ?_⟩
         have n0_ := Aside0.mk (Kd.R_below (rkx HO465) hb)
         have n1_ := Aside0.mk (Kd.R_below (rkx HO472) hb)
         have n2_ := Aside0.mk (Kd.R_elder' (rkx HO482) (Kd.R_base ho0) hb)
         have n3_ := Aside0.mk (Kd.R_lower (Kd.R_new' ho0 (Kd.R_lt (rkx HO482))) (below_size (hb2 HB GE467 GE474)))
         have n4_ := Aside0.mk (blk_below (bkx BK467) hb)
         have n5_ := Aside0.mk (blk_below (bkx BK474) hb)
         have n6_ := Aside0.mk (below_step (hb2 HB GE467 GE474) hb)
         clear HO465
         clear HO472
         clear HO482
         clear BK467
         clear BK474
         clear HB
         have HO465 := n0_
         have HO472 := n1_
         have HO482 := n2_
         have HO485 := n3_
         have BK467 := n4_
         have BK474 := n5_
         have HB := n6_
         clear n0_ n1_ n2_ n3_ n4_ n5_ n6_
         (try clear hb)
         (try clear hb2)
         (try clear hk)
         (try clear hi)
         (try clear ho0)
         refine hK.out _ _ ⟨(blk_cell BK467.out 0).trans rfl, (blk_cell BK467.out 1).trans rfl, (blk_cell BK467.out 2).trans rfl, (blk_cell BK474.out 0).trans rfl, (blk_cell BK474.out 1).trans rfl, (blk_cell BK474.out 2).trans rfl⟩ (fun hHeld => ?_)
         clear hK K
         refine norm_ (a' := ?_) ?_ ?_
         rotate_left
         ·show Act.put _ (some 56) _ = _
          simp only [Act.put, List.setIfInBounds_toArray, List.set_cons_zero, List.set_cons_succ, i64_w, i32_w]
          rfl
         refine two_ (i := 20) (j := 22) (Ni := some 55) (Nj := some 57) (bA 34 4194303) (bA 34 7340031) rfl rfl rfl rfl (two_of HT_.out (by kernel_rfl)) (by decide) (by decide) (fun K hK => ?_) (fun K hK => ?_)
         ·skip
          have hcv34 := own_string (P := Try.prog) Try.underlying41 Try.underlying5 Try.underlying9 (Kd.own_of_R HO482.out)
          refine value_ (w1 := ?_) (v := ?_) (by rfl) rfl ?_ ?_
          rotate_left 2
          ·go_simp
           constructor
           ·rfl
           ·rfl
          clear hcv34
          refine hK.out _ _ ⟨(blk_cell BK467.out 0).trans rfl, (blk_cell BK467.out 1).trans rfl, (blk_cell BK467.out 2).trans rfl, (blk_cell BK474.out 0).trans rfl, (blk_cell BK474.out 1).trans rfl, (blk_cell BK474.out 2).trans rfl⟩ (fun hHeld => ?_)
          clear hK K
          refine norm_ (a' := ?_) ?_ ?_
          rotate_left
          ·show Act.put _ (some 55) _ = _
           simp only [Act.put, List.setIfInBounds_toArray, List.set_cons_zero, List.set_cons_succ, i64_w, i32_w]
           rfl
          refine one_ (i := 22) (N := some 57) (bA 34 8388607) rfl rfl (one_of HT_.out (by kernel_rfl)) (by decide) (fun K hK => ?_)
          have hcv35 := own_string (P := Try.prog) Try.underlying41 Try.underlying5 Try.underlying9 (Kd.own_of_R HO485.out)
          refine value_ (w1 := ?_) (v := ?_) (by rfl) rfl ?_ ?_
          rotate_left 2
          ·go_simp
           constructor
           ·rfl
           ·rfl
          clear hcv35
          refine hK.out _ _ ⟨(blk_cell BK467.out 0).trans rfl, (blk_cell BK467.out 1).trans rfl, (blk_cell BK467.out 2).trans rfl, (blk_cell BK474.out 0).trans rfl, (blk_cell BK474.out 1).trans rfl, (blk_cell BK474.out 2).trans rfl⟩ (fun hHeld => ?_)
          clear hK K
          refine norm_ (a' := ?_) ?_ ?_
          rotate_left
          ·show Act.put _ (some 57) _ = _
           simp only [Act.put, List.setIfInBounds_toArray, List.set_cons_zero, List.set_cons_succ, i64_w, i32_w]
           rfl
          exact norm_ (by simp only [putAll, Act.put, List.setIfInBounds_toArray, List.set_cons_zero, List.set_cons_succ]) (hCont (v484) _ ⟨hHeld, (by refine rkt ?_; exact Kd.R_mono HO465.out (fun _ hk => hk.2)), (by refine rkt ?_; exact Kd.R_mono HO472.out (fun _ hk => hk.2)), (by refine rkt ?_; exact Kd.R_mono HO482.out (fun _ hk => hk.2)), (by refine rkt ?_; exact Kd.R_mono HO485.out (fun _ hk => hk.2)), (bkx BK467), (bkx BK474), (hb2 HB GE467 GE474)⟩)
         ·skip
          have hcv34 := own_string (P := Try.prog) Try.underlying41 Try.underlying5 Try.underlying9 (Kd.own_of_R HO485.out)
          refine value_ (w1 := ?_) (v := ?_) (by rfl) rfl ?_ ?_
          rotate_left 2
          ·go_simp
           constructor
           ·rfl
           ·rfl
          clear hcv34
          refine hK.out _ _ ⟨(blk_cell BK467.out 0).trans rfl, (blk_cell BK467.out 1).trans rfl, (blk_cell BK467.out 2).trans rfl, (blk_cell BK474.out 0).trans rfl, (blk_cell BK474.out 1).trans rfl, (blk_cell BK474.out 2).trans rfl⟩ (fun hHeld => ?_)
          clear hK K
          refine norm_ (a' := ?_) ?_ ?_
          rotate_left
          ·show Act.put _ (some 57) _ = _
           simp only [Act.put, List.setIfInBounds_toArray, List.set_cons_zero, List.set_cons_succ, i64_w, i32_w]
           rfl
          refine one_ (i := 20) (N := some 55) (bA 34 8388607) rfl rfl (one_of HT_.out (by kernel_rfl)) (by decide) (fun K hK => ?_)
          have hcv35 := own_string (P := Try.prog) Try.underlying41 Try.underlying5 Try.underlying9 (Kd.own_of_R HO482.out)
          refine value_ (w1 := ?_) (v := ?_) (by rfl) rfl ?_ ?_
          rotate_left 2
          ·go_simp
           constructor
           ·rfl
           ·rfl
          clear hcv35
          refine hK.out _ _ ⟨(blk_cell BK467.out 0).trans rfl, (blk_cell BK467.out 1).trans rfl, (blk_cell BK467.out 2).trans rfl, (blk_cell BK474.out 0).trans rfl, (blk_cell BK474.out 1).trans rfl, (blk_cell BK474.out 2).trans rfl⟩ (fun hHeld => ?_)
          clear hK K
          refine norm_ (a' := ?_) ?_ ?_
          rotate_left
          ·show Act.put _ (some 55) _ = _
           simp only [Act.put, List.setIfInBounds_toArray, List.set_cons_zero, List.set_cons_succ, i64_w, i32_w]
           rfl
          exact norm_ (by simp only [putAll, Act.put, List.setIfInBounds_toArray, List.set_cons_zero, List.set_cons_succ]) (hCont (v484) _ ⟨hHeld, (by refine rkt ?_; exact Kd.R_mono HO465.out (fun _ hk => hk.2)), (by refine rkt ?_; exact Kd.R_mono HO472.out (fun _ hk => hk.2)), (by refine rkt ?_; exact Kd.R_mono HO482.out (fun _ hk => hk.2)), (by refine rkt ?_; exact Kd.R_mono HO485.out (fun _ hk => hk.2)), (bkx BK467), (bkx BK474), (hb2 HB GE467 GE474)⟩)
       rintro v484 w36 ⟨hS_, h0_, h1_, h2_, h3_, h4_, h5_, h6_⟩
       have n0_ : Aside0 (Kd.R Kd.bool 4 w36 w.heap.size (fun k_ => some k_ ≠ (.slice Ao27 t470.length co27 : Value).ownBlock) (.slice Ao22 t463.length co22) t463) := ⟨h0_⟩
       have n1_ : Aside0 (Kd.R Kd.bool 4 w36 w.heap.size (fun k_ => some k_ ≠ (.slice Ao22 t463.length co22 : Value).ownBlock) (.slice Ao27 t470.length co27) t470) := ⟨h1_⟩
       have n2_ : Aside0 (Kd.R (Kd.int .u8) 5 w36 w.heap.size (fun k_ => some k_ ≠ (v484 : Value).ownBlock) v481 t480) := ⟨h2_⟩
       have n3_ : Aside0 (Kd.R (Kd.int .u8) 5 w36 w.heap.size (fun k_ => some k_ ≠ (v481 : Value).ownBlock) v484 t483) := ⟨h3_⟩
       have n4_ : Aside0 (w36.heap[gb467]? = some (.cells #[.int .i64 t461, .int .i64 t462, .slice Ao22 t463.length co22] 24 (0, 0))) := ⟨h4_⟩
       have n5_ : Aside0 (w36.heap[gb474]? = some (.cells #[.int .i64 t468, .int .i64 t469, .slice Ao27 t470.length co27] 24 (0, 0))) := ⟨h5_⟩
       have n6_ : Aside0 (Below w.heap.size w w36) := ⟨h6_⟩
       clear HO465
       clear HO472
       clear BK467
       clear BK474
       clear HB
       clear h0_ h1_ h2_ h3_ h4_ h5_ h6_
       have HO465 := n0_
       have HO472 := n1_
       have HO482 := n2_
       have HO485 := n3_
       have BK467 := n4_
       have BK474 := n5_
       have HB := n6_
       clear n0_ n1_ n2_ n3_ n4_ n5_ n6_
       have hHeld : w36.cell? ⟨gb467, 0, none⟩ = some (.int .i64 t461) ∧ w36.cell? ⟨gb467, 1, none⟩ = some (.int .i64 t462) ∧ w36.cell? ⟨gb467, 2, none⟩ = some (.slice Ao22 t463.length co22) ∧ w36.cell? ⟨gb474, 0, none⟩ = some (.int .i64 t468) ∧ w36.cell? ⟨gb474, 1, none⟩ = some (.int .i64 t469) ∧ w36.cell? ⟨gb474, 2, none⟩ = some (.slice Ao27 t470.length co27) := hS_
       refine norm_ (a' := ?_) ?_ ?_
       rotate_left
       ·simp only [putAll, Act.put, List.setIfInBounds_toArray, List.set_cons_zero, List.set_cons_succ]
        rfl
       refine pt HT_ 23 58 ?_
       refine pt HT_ 24 59 ?_
       refine pt HT_ 25 60 ?_
       refine one_ (i := 26) (N := some 61) (bA 34 134217727) rfl rfl (one_of HT_.out (by kernel_rfl)) (by decide) (fun K hK => ?_)
       refine goes_ Try.func11 (by kernel_rfl) rfl #[] (by rfl) rfl rfl mapx ?_
       with_reducible refine (font_Closest.calls k  t486 _ A15.out).mono ?_
       rintro e w37 ⟨rfl, hb⟩
       refine ⟨_, rfl, ?_⟩
       have n0_ := Aside0.mk (Kd.R_below (rkx HO465) hb)
       have n1_ := Aside0.mk (Kd.R_below (rkx HO472) hb)
       have n2_ := Aside0.mk (Kd.R_below (rkx HO482) hb)
       have n3_ := Aside0.mk (Kd.R_below (rkx HO485) hb)
       have n4_ := Aside0.mk (blk_below (bkx BK467) hb)
       have n5_ := Aside0.mk (blk_below (bkx BK474) hb)
       have n6_ := Aside0.mk (below_step (hb2 HB GE467 GE474) hb)
       clear HO465
       clear HO472
       clear HO482
       clear HO485
       clear BK467
       clear BK474
       clear HB
       have HO465 := n0_
       have HO472 := n1_
       have HO482 := n2_
       have HO485 := n3_
       have BK467 := n4_
       have BK474 := n5_
       have HB := n6_
       clear n0_ n1_ n2_ n3_ n4_ n5_ n6_
       (try clear hb)
       (try clear hb2)
       (try clear hk)
       (try clear hi)
       refine hK.out _ _ ⟨(blk_cell BK467.out 0).trans rfl, (blk_cell BK467.out 1).trans rfl, (blk_cell BK467.out 2).trans rfl, (blk_cell BK474.out 0).trans rfl, (blk_cell BK474.out 1).trans rfl, (blk_cell BK474.out 2).trans rfl⟩ (fun hHeld => ?_)
       clear hK K
       refine norm_ (a' := ?_) ?_ ?_
       rotate_left
       ·show Act.put _ (some 61) _ = _
        simp only [Act.put, List.setIfInBounds_toArray, List.set_cons_zero, List.set_cons_succ, i64_w, i32_w]
        rfl
       refine one_ (i := 27) (N := some 62) (bA 34 268435455) rfl rfl (one_of HT_.out (by kernel_rfl)) (by decide) (fun K hK => ?_)
       refine goes_ Try.func23 (by kernel_rfl) rfl #[] (by rfl) rfl rfl mapx ?_
       with_reducible refine (barscanref47_Closest.calls k  t487 _ A16.out).mono ?_
       rintro e w38 ⟨rfl, hb⟩
       refine ⟨_, rfl, ?_⟩
       have n0_ := Aside0.mk (Kd.R_below (rkx HO465) hb)
       have n1_ := Aside0.mk (Kd.R_below (rkx HO472) hb)
       have n2_ := Aside0.mk (Kd.R_below (rkx HO482) hb)
       have n3_ := Aside0.mk (Kd.R_below (rkx HO485) hb)
       have n4_ := Aside0.mk (blk_below (bkx BK467) hb)
       have n5_ := Aside0.mk (blk_below (bkx BK474) hb)
       have n6_ := Aside0.mk (below_step (hb2 HB GE467 GE474) hb)
       clear HO465
       clear HO472
       clear HO482
       clear HO485
       clear BK467
       clear BK474
       clear HB
       have HO465 := n0_
       have HO472 := n1_
       have HO482 := n2_
       have HO485 := n3_
       have BK467 := n4_
       have BK474 := n5_
       have HB := n6_
       clear n0_ n1_ n2_ n3_ n4_ n5_ n6_
       (try clear hb)
       (try clear hb2)
       (try clear hk)
       (try clear hi)
       refine hK.out _ _ ⟨(blk_cell BK467.out 0).trans rfl, (blk_cell BK467.out 1).trans rfl, (blk_cell BK467.out 2).trans rfl, (blk_cell BK474.out 0).trans rfl, (blk_cell BK474.out 1).trans rfl, (blk_cell BK474.out 2).trans rfl⟩ (fun hHeld => ?_)
       clear hK K
       refine norm_ (a' := ?_) ?_ ?_
       rotate_left
       ·show Act.put _ (some 62) _ = _
        simp only [Act.put, List.setIfInBounds_toArray, List.set_cons_zero, List.set_cons_succ, i64_w, i32_w]
        rfl
       refine pt HT_ 28 63 ?_
       refine pt HT_ 29 64 ?_
       refine pt HT_ 30 65 ?_
       refine one_ (i := 31) (N := some 66) (bA 34 4294967295) rfl rfl (one_of HT_.out (by kernel_rfl)) (by decide) (fun K hK => ?_)
       refine goes_ Try.func9 (by kernel_rfl) rfl #[] (by rfl) rfl rfl mapx ?_
       with_reducible refine (barscanlaw47_examples.calls k  t488 _ A18.out).mono ?_
       rintro e w39 ⟨rfl, hb⟩
       refine ⟨_, rfl, ?_⟩
       have n0_ := Aside0.mk (Kd.R_below (rkx HO465) hb)
       have n1_ := Aside0.mk (Kd.R_below (rkx HO472) hb)
       have n2_ := Aside0.mk (Kd.R_below (rkx HO482) hb)
       have n3_ := Aside0.mk (Kd.R_below (rkx HO485) hb)
       have n4_ := Aside0.mk (blk_below (bkx BK467) hb)
       have n5_ := Aside0.mk (blk_below (bkx BK474) hb)
       have n6_ := Aside0.mk (below_step (hb2 HB GE467 GE474) hb)
       clear HO465
       clear HO472
       clear HO482
       clear HO485
       clear BK467
       clear BK474
       clear HB
       have HO465 := n0_
       have HO472 := n1_
       have HO482 := n2_
       have HO485 := n3_
       have BK467 := n4_
       have BK474 := n5_
       have HB := n6_
       clear n0_ n1_ n2_ n3_ n4_ n5_ n6_
       (try clear hb)
       (try clear hb2)
       (try clear hk)
       (try clear hi)
       refine hK.out _ _ ⟨(blk_cell BK467.out 0).trans rfl, (blk_cell BK467.out 1).trans rfl, (blk_cell BK467.out 2).trans rfl, (blk_cell BK474.out 0).trans rfl, (blk_cell BK474.out 1).trans rfl, (blk_cell BK474.out 2).trans rfl⟩ (fun hHeld => ?_)
       clear hK K
       refine norm_ (a' := ?_) ?_ ?_
       rotate_left
       ·show Act.put _ (some 66) _ = _
        simp only [Act.put, List.setIfInBounds_toArray, List.set_cons_zero, List.set_cons_succ, i64_w, i32_w]
        rfl
       refine pt HT_ 32 67 ?_
       refine pt HT_ 33 4 ?_
       refine done_ (done_of HT_.out (by kernel_rfl)) ?_
       try go_wp2
       go_ret
       exact ⟨by first | rfl | (simp [errW_none, errW_some] <;> rfl) | (simp [*, errW_none, errW_some] <;> rfl), by repeat (first | (with_reducible first | exact HB.out | apply below_alloc | apply pw_below_drewN | apply below_drew1 | refine below_set ?_ GE467.out | refine below_set ?_ GE474.out) | exact HB.out)⟩
      ·rw [if_neg c17] at H
       exact absurd H (by simp)
     ·rw [if_neg c14] at H
      exact absurd H (by simp)
    ·rw [if_neg c11] at H
     exact absurd H (by simp)
   ·rw [if_neg c10] at H
    exact absurd H (by simp)
  ·rw [if_neg c9] at H
   exact absurd H (by simp)
 ·replace c8 := Bool.eq_false_iff.mpr c8
  subst c8
  have H1 : (none) = some r := by rw [if_neg (show ¬ (false = true) by decide)] at H; exact H
  clear H
  have H := H1
  clear H1
  exact absurd H (by simp)

/-- THE ONE PURE STATEMENT of barscanlaw47_FontGlyphs: yours. -/
def barscanlaw47_FontGlyphs.Pure : Prop := ∀ (a0 : Int) (a1 : Int), (Lit.int .u8 a0).wf = true → (Lit.int .u8 a1).wf = true → ∃ k, barscanlaw47_FontGlyphs.f k a0 a1 = some true
theorem barscanlaw47_FontGlyphs.walk (P : barscanlaw47_FontGlyphs.Pure) (a0 : Int) (a1 : Int) (w : World) (w0 : (Lit.int .u8 a0).wf = true) (w1 : (Lit.int .u8 a1).wf = true) :
  Calls Try.prog 6 #[.int .u8 a0, .int .u8 a1] w fun e w' => e = .returned (.bool true) ∧ Below w.heap.size w w' := by
 obtain ⟨k, h⟩ := P a0 a1 w0 w1
 refine (barscanlaw47_FontGlyphs.calls k a0 a1 true w h).mono ?_
 rintro e w' ⟨rfl, hd⟩
 exact ⟨rfl, hd⟩

end Go.Proofs.Ytghfcdgdbdeomaa.PR
