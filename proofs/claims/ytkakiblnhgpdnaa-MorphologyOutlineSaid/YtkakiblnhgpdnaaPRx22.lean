-- Written by this session's own program (myprint.py).
import Derived.Test.YtkakiblnhgpdnaaPRx0
import Derived.Test.YtkakiblnhgpdnaaPRx8
import Derived.Test.YtkakiblnhgpdnaaPRx9
import Derived.Test.YtkakiblnhgpdnaaPRx19
import Derived.Test.YtkakiblnhgpdnaaPRx21
namespace Go.Proofs.Ytkakiblnhgpdnaa.PR
open Go.RowKit Go.Proofs.YtkakiblnhgpdnaaW.PrintWords Go.Proofs.YtkakiblnhgpdnaaW.PrintLast Go.Proofs.YtkakiblnhgpdnaaW.PrintMore Go.Proofs.Ytkakiblnhgpdnaa.XWords Go.Proofs.Ytkakiblnhgpdnaa.XShort Go.Proofs.Ytkakiblnhgpdnaa.XFn
attribute [local go_sem] max2_int min2_int max_two min_two max_three min_three max_four min_four   -- for this text's walks alone
set_option linter.unusedVariables false
set_option linter.unusedSimpArgs false

/-! ### barscanlaw37_MorphologyOutline: function 6 -/
def barscanlaw37_MorphologyOutline.l0 : Nat → List Bool → Int → Int → Int → Int → List Bool → Int → Int → List Bool → Int → Int → List Bool → Option (Bool)
 | 0, _, _, _, _, _, _, _, _, _, _, _, _ => none
 | k + 1, x59, x60, x61, x566000, x566001, x566002, x573000, x573001, x573002, x580000, x580001, x580002 => if x61 < x60 then (if 0 ≤ x61 then (if x61 < (x59.length : Int) then (if rdOf false x59 x61 = true then (if x61 < (x566002.length : Int) then (if x61 < (x573002.length : Int) then (if rdOf false x573002 x61 = true then (if x61 < (x580002.length : Int) then (if ((!(rdOf false x566002 x61)) != (rdOf false x580002 x61)) = true then (none) else (barscanlaw37_MorphologyOutline.l0 k x59 x60 (wrap64 (x61 + 1)) x566000 x566001 x566002 x573000 x573001 x573002 x580000 x580001 x580002)) else (none)) else (if ((!(rdOf false x566002 x61)) != false) = true then (none) else (barscanlaw37_MorphologyOutline.l0 k x59 x60 (wrap64 (x61 + 1)) x566000 x566001 x566002 x573000 x573001 x573002 x580000 x580001 x580002))) else (none)) else (none)) else (if x61 < (x573002.length : Int) then (if rdOf false x573002 x61 = true then (if x61 < (x580002.length : Int) then (if (false != (rdOf false x580002 x61)) = true then (none) else (barscanlaw37_MorphologyOutline.l0 k x59 x60 (wrap64 (x61 + 1)) x566000 x566001 x566002 x573000 x573001 x573002 x580000 x580001 x580002)) else (none)) else (if (false != false) = true then (none) else (barscanlaw37_MorphologyOutline.l0 k x59 x60 (wrap64 (x61 + 1)) x566000 x566001 x566002 x573000 x573001 x573002 x580000 x580001 x580002))) else (none))) else (none)) else (none)) else ((barscanlaw37_examples.f k).bind fun t589 => (some t589))
def barscanlaw37_MorphologyOutline.f (k : Nat) (a0_0 : Int) (a0_1 : Int) (l0_2 : List Bool) : Option (Bool) := (barscanlaw37_valid.f a0_0 a0_1 l0_2).bind fun t557 => (if t557 = true then ((morphology_Outline.f k a0_0 a0_1 l0_2).bind fun bt559 => ((morphology_Erode.f k a0_0 a0_1 l0_2 1 0).bind fun bt566 => ((morphology_Erode.f k a0_0 a0_1 l0_2 0 1).bind fun bt573 => (if bt559.2.2.2 = 0 then (if bt566.2.2.2 = 0 then (if bt573.2.2.2 = 0 then ((barscanlaw37_within.f k bt559.1 bt559.2.1 bt559.2.2.1 a0_0 a0_1 l0_2).bind fun t580 => (if t580 = true then ((barscanlaw37_within.f k bt566.1 bt566.2.1 bt566.2.2.1 a0_0 a0_1 l0_2).bind fun t581 => (if t581 = true then ((barscanlaw37_within.f k bt573.1 bt573.2.1 bt573.2.2.1 a0_0 a0_1 l0_2).bind fun t582 => (if t582 = true then (barscanlaw37_MorphologyOutline.l0 k l0_2 (l0_2.length : Int) 0 bt559.1 bt559.2.1 bt559.2.2.1 bt566.1 bt566.2.1 bt566.2.2.1 bt573.1 bt573.2.1 bt573.2.2.1) else (none))) else (none))) else (none))) else (none)) else (none)) else (none))))) else ((barscanlaw37_examples.f k).bind fun t558 => (some t558)))
theorem barscanlaw37_MorphologyOutline.mono_l : ∀ k, (∀ y0 y1 y2 y3 y4 y5 y6 y7 y8 y9 y10 y11, LeO (barscanlaw37_MorphologyOutline.l0 k y0 y1 y2 y3 y4 y5 y6 y7 y8 y9 y10 y11) (barscanlaw37_MorphologyOutline.l0 (k + 1) y0 y1 y2 y3 y4 y5 y6 y7 y8 y9 y10 y11))
 | 0 => fun _ _ _ _ _ _ _ _ _ _ _ _ r h => by simp [barscanlaw37_MorphologyOutline.l0] at h
 | k + 1 => by
  have ih0 := barscanlaw37_MorphologyOutline.mono_l k
  ·intro y0 y1 y2 y3 y4 y5 y6 y7 y8 y9 y10 y11
   unfold barscanlaw37_MorphologyOutline.l0
   repeat' first
   | (with_reducible exact ih0 _ _ _ _ _ _ _ _ _ _ _ _)
   | (with_reducible exact barscanlaw37_examples.mono _)
   | (with_reducible exact barscanlaw37_within.mono _ _ _ _ _ _ _)
   | (with_reducible exact morphology_Erode.mono _ _ _ _ _ _)
   | (with_reducible exact morphology_Outline.mono _ _ _ _)
   | (with_reducible exact LeO.refl _)
   | (with_reducible exact LeO.none _)
   | (with_reducible refine LeO.ite ?_ ?_)
   | (with_reducible refine LeO.bind ?_ (fun _ => ?_))
   | exact ih0 _ _ _ _ _ _ _ _ _ _ _ _
   | exact barscanlaw37_examples.mono _
   | exact barscanlaw37_within.mono _ _ _ _ _ _ _
   | exact morphology_Erode.mono _ _ _ _ _ _
   | exact morphology_Outline.mono _ _ _ _
   | exact LeO.none _
   | refine LeO.ite ?_ ?_
   | refine LeO.bind ?_ (fun _ => ?_)
theorem barscanlaw37_MorphologyOutline.mono : ∀ a0 a1 a2 k, LeO (barscanlaw37_MorphologyOutline.f k a0 a1 a2) (barscanlaw37_MorphologyOutline.f (k + 1) a0 a1 a2) := by
 intro a0 a1 a2 k
 have ih0 := barscanlaw37_MorphologyOutline.mono_l k
 unfold barscanlaw37_MorphologyOutline.f
 repeat' first
   | (with_reducible exact ih0 _ _ _ _ _ _ _ _ _ _ _ _)
   | (with_reducible exact barscanlaw37_examples.mono _)
   | (with_reducible exact barscanlaw37_within.mono _ _ _ _ _ _ _)
   | (with_reducible exact morphology_Erode.mono _ _ _ _ _ _)
   | (with_reducible exact morphology_Outline.mono _ _ _ _)
   | (with_reducible exact LeO.refl _)
   | (with_reducible exact LeO.none _)
   | (with_reducible refine LeO.ite ?_ ?_)
   | (with_reducible refine LeO.bind ?_ (fun _ => ?_))
   | exact ih0 _ _ _ _ _ _ _ _ _ _ _ _
   | exact barscanlaw37_examples.mono _
   | exact barscanlaw37_within.mono _ _ _ _ _ _ _
   | exact morphology_Erode.mono _ _ _ _ _ _
   | exact morphology_Outline.mono _ _ _ _
   | exact LeO.none _
   | refine LeO.ite ?_ ?_
   | refine LeO.bind ?_ (fun _ => ?_)
set_option maxHeartbeats 8000000 in
set_option maxRecDepth 100000 in
theorem barscanlaw37_MorphologyOutline.calls (k : Nat) (a0_0 : Int) (a0_1 : Int) (A0_2 : Option Addr) (c0_2 : Nat) (l0_2 : List Bool) (r : Bool) (w : World) (hr0_2 : Kd.C Kd.bool w A0_2 l0_2.length l0_2) (hc0_2 : l0_2.length ≤ c0_2) (h : barscanlaw37_MorphologyOutline.f k a0_0 a0_1 l0_2 = some r) :
  Calls Try.prog 6 #[.agg #[.int .i64 a0_0, .int .i64 a0_1, .slice A0_2 l0_2.length c0_2]] w fun e w' => e = .returned (.bool r) ∧ Below w.heap.size w w' := by
 have hu24 := Try.underlying24
 have HR0_2 := Aside0.mk hr0_2
 have HC0_2 := Aside0.mk hc0_2
 clear hr0_2 hc0_2
 have HB := Aside0.mk (Below.refl w.heap.size w)
 have H : ((barscanlaw37_valid.f a0_0 a0_1 l0_2).bind fun t557 => (if t557 = true then ((morphology_Outline.f k a0_0 a0_1 l0_2).bind fun bt559 => ((morphology_Erode.f k a0_0 a0_1 l0_2 1 0).bind fun bt566 => ((morphology_Erode.f k a0_0 a0_1 l0_2 0 1).bind fun bt573 => (if bt559.2.2.2 = 0 then (if bt566.2.2.2 = 0 then (if bt573.2.2.2 = 0 then ((barscanlaw37_within.f k bt559.1 bt559.2.1 bt559.2.2.1 a0_0 a0_1 l0_2).bind fun t580 => (if t580 = true then ((barscanlaw37_within.f k bt566.1 bt566.2.1 bt566.2.2.1 a0_0 a0_1 l0_2).bind fun t581 => (if t581 = true then ((barscanlaw37_within.f k bt573.1 bt573.2.1 bt573.2.2.1 a0_0 a0_1 l0_2).bind fun t582 => (if t582 = true then (barscanlaw37_MorphologyOutline.l0 k l0_2 (l0_2.length : Int) 0 bt559.1 bt559.2.1 bt559.2.2.1 bt566.1 bt566.2.1 bt566.2.2.1 bt573.1 bt573.2.1 bt573.2.2.1) else (none))) else (none))) else (none))) else (none)) else (none)) else (none))))) else ((barscanlaw37_examples.f k).bind fun t558 => (some t558)))) = some r := h
 clear h
 replace H := Option.bind_eq_some_iff.mp H
 obtain ⟨t557, A20, H⟩ := H
 replace H : (if t557 = true then ((morphology_Outline.f k a0_0 a0_1 l0_2).bind fun bt559 => ((morphology_Erode.f k a0_0 a0_1 l0_2 1 0).bind fun bt566 => ((morphology_Erode.f k a0_0 a0_1 l0_2 0 1).bind fun bt573 => (if bt559.2.2.2 = 0 then (if bt566.2.2.2 = 0 then (if bt573.2.2.2 = 0 then ((barscanlaw37_within.f k bt559.1 bt559.2.1 bt559.2.2.1 a0_0 a0_1 l0_2).bind fun t580 => (if t580 = true then ((barscanlaw37_within.f k bt566.1 bt566.2.1 bt566.2.2.1 a0_0 a0_1 l0_2).bind fun t581 => (if t581 = true then ((barscanlaw37_within.f k bt573.1 bt573.2.1 bt573.2.2.1 a0_0 a0_1 l0_2).bind fun t582 => (if t582 = true then (barscanlaw37_MorphologyOutline.l0 k l0_2 (l0_2.length : Int) 0 bt559.1 bt559.2.1 bt559.2.2.1 bt566.1 bt566.2.1 bt566.2.2.1 bt573.1 bt573.2.1 bt573.2.2.1) else (none))) else (none))) else (none))) else (none)) else (none)) else (none))))) else ((barscanlaw37_examples.f k).bind fun t558 => (some t558))) = some r := H
 have A2 := Aside0.mk A20
 clear A20
 by_cases c3 : t557 = true
 ·subst c3
  have H1 : ((morphology_Outline.f k a0_0 a0_1 l0_2).bind fun bt559 => ((morphology_Erode.f k a0_0 a0_1 l0_2 1 0).bind fun bt566 => ((morphology_Erode.f k a0_0 a0_1 l0_2 0 1).bind fun bt573 => (if bt559.2.2.2 = 0 then (if bt566.2.2.2 = 0 then (if bt573.2.2.2 = 0 then ((barscanlaw37_within.f k bt559.1 bt559.2.1 bt559.2.2.1 a0_0 a0_1 l0_2).bind fun t580 => (if t580 = true then ((barscanlaw37_within.f k bt566.1 bt566.2.1 bt566.2.2.1 a0_0 a0_1 l0_2).bind fun t581 => (if t581 = true then ((barscanlaw37_within.f k bt573.1 bt573.2.1 bt573.2.2.1 a0_0 a0_1 l0_2).bind fun t582 => (if t582 = true then (barscanlaw37_MorphologyOutline.l0 k l0_2 (l0_2.length : Int) 0 bt559.1 bt559.2.1 bt559.2.2.1 bt566.1 bt566.2.1 bt566.2.2.1 bt573.1 bt573.2.1 bt573.2.2.1) else (none))) else (none))) else (none))) else (none)) else (none)) else (none))))) = some r := by rw [if_pos rfl] at H; exact H
  clear H
  have H := H1
  clear H1
  replace H := Option.bind_eq_some_iff.mp H
  obtain ⟨⟨t559, t560, t561, t564⟩, A40, H⟩ := H
  replace H : ((morphology_Erode.f k a0_0 a0_1 l0_2 1 0).bind fun bt566 => ((morphology_Erode.f k a0_0 a0_1 l0_2 0 1).bind fun bt573 => (if t564 = 0 then (if bt566.2.2.2 = 0 then (if bt573.2.2.2 = 0 then ((barscanlaw37_within.f k t559 t560 t561 a0_0 a0_1 l0_2).bind fun t580 => (if t580 = true then ((barscanlaw37_within.f k bt566.1 bt566.2.1 bt566.2.2.1 a0_0 a0_1 l0_2).bind fun t581 => (if t581 = true then ((barscanlaw37_within.f k bt573.1 bt573.2.1 bt573.2.2.1 a0_0 a0_1 l0_2).bind fun t582 => (if t582 = true then (barscanlaw37_MorphologyOutline.l0 k l0_2 (l0_2.length : Int) 0 t559 t560 t561 bt566.1 bt566.2.1 bt566.2.2.1 bt573.1 bt573.2.1 bt573.2.2.1) else (none))) else (none))) else (none))) else (none)) else (none)) else (none)))) = some r := H
  have A4 := Aside0.mk A40
  clear A40
  replace H := Option.bind_eq_some_iff.mp H
  obtain ⟨⟨t566, t567, t568, t571⟩, A50, H⟩ := H
  replace H : ((morphology_Erode.f k a0_0 a0_1 l0_2 0 1).bind fun bt573 => (if t564 = 0 then (if t571 = 0 then (if bt573.2.2.2 = 0 then ((barscanlaw37_within.f k t559 t560 t561 a0_0 a0_1 l0_2).bind fun t580 => (if t580 = true then ((barscanlaw37_within.f k t566 t567 t568 a0_0 a0_1 l0_2).bind fun t581 => (if t581 = true then ((barscanlaw37_within.f k bt573.1 bt573.2.1 bt573.2.2.1 a0_0 a0_1 l0_2).bind fun t582 => (if t582 = true then (barscanlaw37_MorphologyOutline.l0 k l0_2 (l0_2.length : Int) 0 t559 t560 t561 t566 t567 t568 bt573.1 bt573.2.1 bt573.2.2.1) else (none))) else (none))) else (none))) else (none)) else (none)) else (none))) = some r := H
  have A5 := Aside0.mk A50
  clear A50
  replace H := Option.bind_eq_some_iff.mp H
  obtain ⟨⟨t573, t574, t575, t578⟩, A60, H⟩ := H
  replace H : (if t564 = 0 then (if t571 = 0 then (if t578 = 0 then ((barscanlaw37_within.f k t559 t560 t561 a0_0 a0_1 l0_2).bind fun t580 => (if t580 = true then ((barscanlaw37_within.f k t566 t567 t568 a0_0 a0_1 l0_2).bind fun t581 => (if t581 = true then ((barscanlaw37_within.f k t573 t574 t575 a0_0 a0_1 l0_2).bind fun t582 => (if t582 = true then (barscanlaw37_MorphologyOutline.l0 k l0_2 (l0_2.length : Int) 0 t559 t560 t561 t566 t567 t568 t573 t574 t575) else (none))) else (none))) else (none))) else (none)) else (none)) else (none)) = some r := H
  have A6 := Aside0.mk A60
  clear A60
  by_cases c7 : t564 = 0
  ·rw [if_pos c7] at H
   have c7b0 : (t564 == 0) = true := beq_iff_eq.mpr c7
   have c7b1 : (t564 != 0) = false := bne_eq_false_iff_eq.mpr c7
   clear c7
   by_cases c8 : t571 = 0
   ·rw [if_pos c8] at H
    have c8b0 : (t571 == 0) = true := beq_iff_eq.mpr c8
    have c8b1 : (t571 != 0) = false := bne_eq_false_iff_eq.mpr c8
    clear c8
    by_cases c9 : t578 = 0
    ·rw [if_pos c9] at H
     have c9b0 : (t578 == 0) = true := beq_iff_eq.mpr c9
     have c9b1 : (t578 != 0) = false := bne_eq_false_iff_eq.mpr c9
     clear c9
     replace H := Option.bind_eq_some_iff.mp H
     obtain ⟨t580, A100, H⟩ := H
     replace H : (if t580 = true then ((barscanlaw37_within.f k t566 t567 t568 a0_0 a0_1 l0_2).bind fun t581 => (if t581 = true then ((barscanlaw37_within.f k t573 t574 t575 a0_0 a0_1 l0_2).bind fun t582 => (if t582 = true then (barscanlaw37_MorphologyOutline.l0 k l0_2 (l0_2.length : Int) 0 t559 t560 t561 t566 t567 t568 t573 t574 t575) else (none))) else (none))) else (none)) = some r := H
     have A10 := Aside0.mk A100
     clear A100
     by_cases c11 : t580 = true
     ·subst c11
      have H1 : ((barscanlaw37_within.f k t566 t567 t568 a0_0 a0_1 l0_2).bind fun t581 => (if t581 = true then ((barscanlaw37_within.f k t573 t574 t575 a0_0 a0_1 l0_2).bind fun t582 => (if t582 = true then (barscanlaw37_MorphologyOutline.l0 k l0_2 (l0_2.length : Int) 0 t559 t560 t561 t566 t567 t568 t573 t574 t575) else (none))) else (none))) = some r := by rw [if_pos rfl] at H; exact H
      clear H
      have H := H1
      clear H1
      replace H := Option.bind_eq_some_iff.mp H
      obtain ⟨t581, A120, H⟩ := H
      replace H : (if t581 = true then ((barscanlaw37_within.f k t573 t574 t575 a0_0 a0_1 l0_2).bind fun t582 => (if t582 = true then (barscanlaw37_MorphologyOutline.l0 k l0_2 (l0_2.length : Int) 0 t559 t560 t561 t566 t567 t568 t573 t574 t575) else (none))) else (none)) = some r := H
      have A12 := Aside0.mk A120
      clear A120
      by_cases c13 : t581 = true
      ·subst c13
       have H1 : ((barscanlaw37_within.f k t573 t574 t575 a0_0 a0_1 l0_2).bind fun t582 => (if t582 = true then (barscanlaw37_MorphologyOutline.l0 k l0_2 (l0_2.length : Int) 0 t559 t560 t561 t566 t567 t568 t573 t574 t575) else (none))) = some r := by rw [if_pos rfl] at H; exact H
       clear H
       have H := H1
       clear H1
       replace H := Option.bind_eq_some_iff.mp H
       obtain ⟨t582, A140, H⟩ := H
       replace H : (if t582 = true then (barscanlaw37_MorphologyOutline.l0 k l0_2 (l0_2.length : Int) 0 t559 t560 t561 t566 t567 t568 t573 t574 t575) else (none)) = some r := H
       have A14 := Aside0.mk A140
       clear A140
       by_cases c15 : t582 = true
       ·subst c15
        have H1 : (barscanlaw37_MorphologyOutline.l0 k l0_2 (l0_2.length : Int) 0 t559 t560 t561 t566 t567 t568 t573 t574 t575) = some r := by rw [if_pos rfl] at H; exact H
        clear H
        have H := H1
        clear H1
        have H' := Aside0.mk H
        clear H
        go_enter Try.func6, Try.ntmps6
        go_wp2_with (first | ((with_reducible refine gate_dst (N := 1) rfl ?_); refine box_event ?hg (N := 1) ?hd (cs := #[.int .i64 a0_0, .int .i64 a0_1, .slice A0_2 l0_2.length c0_2]) (t := 24) ?hr ?_; (case hd => rfl); (case hg => rfl); (case hr => first | (go_simp; done) | (go_simp; rfl)); intro gb556 hg w16 hbox hb; have n0_ := Aside0.mk (below_step (hb0 HB) hb); have n1_ := Aside0.mk (hbox); have n2_ := Aside0.mk ((by rw [hg]; exact (below_size (hb0 HB)) : w.heap.size ≤ gb556)); have n3_ := Aside0.mk ((by rw [hg]; exact (below_size (hb0 HB)) : w.heap.size ≤ gb556)); clear HB; have HB := n0_; have BK556 := n1_; have GW556 := n2_; have GE556 := n3_; clear n0_ n1_ n2_ n3_; clear hb hbox hg; have hcz17_0 : w16.cell? ⟨gb556, 0, none⟩ = some (.int .i64 a0_0) := (blk_cell BK556.out 0).trans rfl; have hcz17_1 : w16.cell? ⟨gb556, 1, none⟩ = some (.int .i64 a0_1) := (blk_cell BK556.out 1).trans rfl; have hcz17_2 : w16.cell? ⟨gb556, 2, none⟩ = some (.slice A0_2 l0_2.length c0_2) := (blk_cell BK556.out 2).trans rfl; have hfz17_0 := blk_frozen BK556.out 0; have hfz17_1 := blk_frozen BK556.out 1; have hfz17_2 := blk_frozen BK556.out 2) | (go_at_call 23; (with_reducible refine (barscanlaw37_valid.calls a0_0 a0_1 _ _ l0_2 true _ ?side1 ?side2 A2.out).mono ?_); (case side1 => repeat (first | exact (Kd.C_below HR0_2.out HB.out) | (with_reducible refine Kd.C_alloc ?_ _) | (with_reducible refine Kd.C_drewN ?_ _) | (with_reducible refine Kd.C_drew ?_))); (case side2 => exact HC0_2.out); rintro e w18 ⟨rfl, hb⟩; have n0_ := Aside0.mk (blk_below (bkx BK556) hb); have n1_ := Aside0.mk (below_step (hb1 HB GE556) hb); clear BK556; clear HB; have BK556 := n0_; have HB := n1_; clear n0_ n1_; (try clear hb); (try clear hb2); (try clear hk); (try clear hi); have hcz19_0 : w18.cell? ⟨gb556, 0, none⟩ = some (.int .i64 a0_0) := (blk_cell BK556.out 0).trans rfl; have hcz19_1 : w18.cell? ⟨gb556, 1, none⟩ = some (.int .i64 a0_1) := (blk_cell BK556.out 1).trans rfl; have hcz19_2 : w18.cell? ⟨gb556, 2, none⟩ = some (.slice A0_2 l0_2.length c0_2) := (blk_cell BK556.out 2).trans rfl; have hfz19_0 := blk_frozen BK556.out 0; have hfz19_1 := blk_frozen BK556.out 1; have hfz19_2 := blk_frozen BK556.out 2) | (go_at_call 20; (with_reducible refine (morphology_Outline.calls k a0_0 a0_1 _ _ l0_2 t559 t560 t561 t564 _ ?side1 ?side2 A4.out).mono ?_); (case side1 => repeat (first | exact (Kd.C_below HR0_2.out HB.out) | (with_reducible refine Kd.C_alloc ?_ _) | (with_reducible refine Kd.C_drewN ?_ _) | (with_reducible refine Kd.C_drew ?_))); (case side2 => exact HC0_2.out); rintro e w20 ⟨v562, rfl, ho0, hb⟩; have n0_ := Aside0.mk (Kd.R_lower ho0 (below_size (hb1 HB GE556))); have n1_ := Aside0.mk (blk_below (bkx BK556) hb); have n2_ := Aside0.mk (below_step (hb1 HB GE556) hb); clear BK556; clear HB; have HO563 := n0_; have BK556 := n1_; have HB := n2_; clear n0_ n1_ n2_; (try clear hb); (try clear hb2); (try clear hk); (try clear hi); (try clear ho0)) | ((with_reducible refine gate_dst (N := 3) rfl ?_); refine box_event ?hg (N := 3) ?hd (cs := #[.int .i64 0, .int .i64 0, .slice none 0 0]) (t := 24) ?hr ?_; (case hd => rfl); (case hg => rfl); (case hr => first | (go_simp; done) | (go_simp; rfl)); intro gb565 hg w21 hbox hb; have n0_ := Aside0.mk (Kd.R_below (rkx HO563) hb); have n1_ := Aside0.mk (blk_below (bkx BK556) hb); have n2_ := Aside0.mk (below_step (hb1 HB GE556) hb); have n3_ := Aside0.mk (hbox); have n4_ := Aside0.mk ((by rw [hg]; exact (below_size (hb1 HB GE556)) : w.heap.size ≤ gb565)); have n5_ := Aside0.mk ((by rw [hg]; exact (below_size (hb1 HB GE556)) : w.heap.size ≤ gb565)); have n6_ := Aside0.mk (nel hg BK556 : gb556 ≠ gb565); have n7_ := Aside0.mk (neg hg BK556 : gb565 ≠ gb556); clear HO563; clear BK556; clear HB; have HO563 := n0_; have BK556 := n1_; have HB := n2_; have BK565 := n3_; have GW565 := n4_; have GE565 := n5_; have NB556_565 := n6_; have NB565_556 := n7_; clear n0_ n1_ n2_ n3_ n4_ n5_ n6_ n7_; clear hb hbox hg; have hnb22 := NB565_556.out; have hnc22 := NB556_565.out; have hcz23_0 : w21.cell? ⟨gb565, 0, none⟩ = some (.int .i64 0) := (blk_cell BK565.out 0).trans rfl; have hcz23_1 : w21.cell? ⟨gb565, 1, none⟩ = some (.int .i64 0) := (blk_cell BK565.out 1).trans rfl; have hcz23_2 : w21.cell? ⟨gb565, 2, none⟩ = some (.slice none 0 0) := (blk_cell BK565.out 2).trans rfl; have hfz23_0 := blk_frozen BK565.out 0; have hfz23_1 := blk_frozen BK565.out 1; have hfz23_2 := blk_frozen BK565.out 2; obtain ⟨Ao24, co24, eo24⟩ := Kd.R_slice HO563.out; subst eo24; have hcz25_0 : w21.cell? ⟨gb556, 0, none⟩ = some (.int .i64 a0_0) := (blk_cell BK556.out 0).trans rfl; have hcz25_1 : w21.cell? ⟨gb556, 1, none⟩ = some (.int .i64 a0_1) := (blk_cell BK556.out 1).trans rfl; have hcz25_2 : w21.cell? ⟨gb556, 2, none⟩ = some (.slice A0_2 l0_2.length c0_2) := (blk_cell BK556.out 2).trans rfl; have hfz25_0 := blk_frozen BK556.out 0; have hfz25_1 := blk_frozen BK556.out 1; have hfz25_2 := blk_frozen BK556.out 2) | (go_at_call 24; (with_reducible refine (morphology_Erode.calls k a0_0 a0_1 _ _ l0_2 1 0 t566 t567 t568 t571 _ ?side1 ?side2 A5.out).mono ?_); (case side1 => exact Kd.C_below HR0_2.out (hb2 HB GE556 GE565)); (case side2 => exact HC0_2.out); rintro e w26 ⟨v569, rfl, ho0, hb⟩; have n0_ := Aside0.mk (Kd.R_elder' (by refine rkt ?_; exact (far3 HO563 BK565)) (Kd.R_base ho0) hb); have n1_ := Aside0.mk (Kd.R_lower (Kd.R_new' ho0 (Kd.R_lt (by refine rkt ?_; exact (far3 HO563 BK565)))) (below_size (hb2 HB GE556 GE565))); have n2_ := Aside0.mk (blk_below (g := gb556) (o := .cells #[.int .i64 a0_0, .int .i64 a0_1, .slice A0_2 l0_2.length c0_2] 24 (0, 0)) (bky BK556 NB556_565) hb); have n3_ := Aside0.mk (blk_below (g := gb565) (o := .cells #[.int .i64 t559, .int .i64 t560, .slice Ao24 t561.length co24] 24 (0, 0)) (by refine bkt ?_; refine blk_put (cs := #[.int .i64 t559, .int .i64 t560, .slice none 0 0]) ?_ 2 _ rfl; refine bkt ?_; refine blk_put (cs := #[.int .i64 t559, .int .i64 0, .slice none 0 0]) ?_ 1 _ rfl; refine bkt ?_; refine blk_put (cs := #[.int .i64 0, .int .i64 0, .slice none 0 0]) ?_ 0 _ rfl; refine bkt ?_; exact BK565.out) hb); have n4_ := Aside0.mk (below_step (hb2 HB GE556 GE565) hb); clear HO563; clear BK556; clear BK565; clear HB; have HO563 := n0_; have HO570 := n1_; have BK556 := n2_; have BK565 := n3_; have HB := n4_; clear n0_ n1_ n2_ n3_ n4_; (try clear hb); (try clear hb2); (try clear hk); (try clear hi); (try clear ho0)) | ((with_reducible refine gate_dst (N := 5) rfl ?_); refine box_event ?hg (N := 5) ?hd (cs := #[.int .i64 0, .int .i64 0, .slice none 0 0]) (t := 24) ?hr ?_; (case hd => rfl); (case hg => rfl); (case hr => first | (go_simp; done) | (go_simp; rfl)); intro gb572 hg w27 hbox hb; have n0_ := Aside0.mk (Kd.R_below (rkx HO563) hb); have n1_ := Aside0.mk (Kd.R_below (rkx HO570) hb); have n2_ := Aside0.mk (blk_below (bkx BK556) hb); have n3_ := Aside0.mk (blk_below (bkx BK565) hb); have n4_ := Aside0.mk (below_step (hb2 HB GE556 GE565) hb); have n5_ := Aside0.mk (hbox); have n6_ := Aside0.mk ((by rw [hg]; exact (below_size (hb2 HB GE556 GE565)) : w.heap.size ≤ gb572)); have n7_ := Aside0.mk ((by rw [hg]; exact (below_size (hb2 HB GE556 GE565)) : w.heap.size ≤ gb572)); have n8_ := Aside0.mk (nel hg BK556 : gb556 ≠ gb572); have n9_ := Aside0.mk (neg hg BK556 : gb572 ≠ gb556); have n10_ := Aside0.mk (nel hg BK565 : gb565 ≠ gb572); have n11_ := Aside0.mk (neg hg BK565 : gb572 ≠ gb565); clear HO563; clear HO570; clear BK556; clear BK565; clear HB; have HO563 := n0_; have HO570 := n1_; have BK556 := n2_; have BK565 := n3_; have HB := n4_; have BK572 := n5_; have GW572 := n6_; have GE572 := n7_; have NB556_572 := n8_; have NB572_556 := n9_; have NB565_572 := n10_; have NB572_565 := n11_; clear n0_ n1_ n2_ n3_ n4_ n5_ n6_ n7_ n8_ n9_ n10_ n11_; clear hb hbox hg; have hnb28 := NB572_556.out; have hnc28 := NB556_572.out; have hnb29 := NB572_565.out; have hnc29 := NB565_572.out; have hcz30_0 : w27.cell? ⟨gb572, 0, none⟩ = some (.int .i64 0) := (blk_cell BK572.out 0).trans rfl; have hcz30_1 : w27.cell? ⟨gb572, 1, none⟩ = some (.int .i64 0) := (blk_cell BK572.out 1).trans rfl; have hcz30_2 : w27.cell? ⟨gb572, 2, none⟩ = some (.slice none 0 0) := (blk_cell BK572.out 2).trans rfl; have hfz30_0 := blk_frozen BK572.out 0; have hfz30_1 := blk_frozen BK572.out 1; have hfz30_2 := blk_frozen BK572.out 2; obtain ⟨Ao31, co31, eo31⟩ := Kd.R_slice HO570.out; subst eo31; have hcz32_0 : w27.cell? ⟨gb556, 0, none⟩ = some (.int .i64 a0_0) := (blk_cell BK556.out 0).trans rfl; have hcz32_1 : w27.cell? ⟨gb556, 1, none⟩ = some (.int .i64 a0_1) := (blk_cell BK556.out 1).trans rfl; have hcz32_2 : w27.cell? ⟨gb556, 2, none⟩ = some (.slice A0_2 l0_2.length c0_2) := (blk_cell BK556.out 2).trans rfl; have hfz32_0 := blk_frozen BK556.out 0; have hfz32_1 := blk_frozen BK556.out 1; have hfz32_2 := blk_frozen BK556.out 2) | (go_at_call 24; (with_reducible refine (morphology_Erode.calls k a0_0 a0_1 _ _ l0_2 0 1 t573 t574 t575 t578 _ ?side1 ?side2 A6.out).mono ?_); (case side1 => exact Kd.C_below HR0_2.out (hb3 HB GE556 GE565 GE572)); (case side2 => exact HC0_2.out); rintro e w33 ⟨v576, rfl, ho0, hb⟩; have n0_ := Aside0.mk (Kd.R_elder' (by refine rkt ?_; exact (far3 HO563 BK572)) (Kd.R_base ho0) hb); have n1_ := Aside0.mk (Kd.R_elder' (by refine rkt ?_; exact (far3 HO570 BK572)) (Kd.R_base ho0) hb); have n2_ := Aside0.mk (Kd.R_lower (Kd.R_new' (Kd.R_new' ho0 (Kd.R_lt (by refine rkt ?_; exact (far3 HO563 BK572)))) (Kd.R_lt (by refine rkt ?_; exact (far3 HO570 BK572)))) (below_size (hb3 HB GE556 GE565 GE572))); have n3_ := Aside0.mk (blk_below (g := gb556) (o := .cells #[.int .i64 a0_0, .int .i64 a0_1, .slice A0_2 l0_2.length c0_2] 24 (0, 0)) (bky BK556 NB556_572) hb); have n4_ := Aside0.mk (blk_below (g := gb565) (o := .cells #[.int .i64 t559, .int .i64 t560, .slice Ao24 t561.length co24] 24 (0, 0)) (bky BK565 NB565_572) hb); have n5_ := Aside0.mk (blk_below (g := gb572) (o := .cells #[.int .i64 t566, .int .i64 t567, .slice Ao31 t568.length co31] 24 (0, 0)) (by refine bkt ?_; refine blk_put (cs := #[.int .i64 t566, .int .i64 t567, .slice none 0 0]) ?_ 2 _ rfl; refine bkt ?_; refine blk_put (cs := #[.int .i64 t566, .int .i64 0, .slice none 0 0]) ?_ 1 _ rfl; refine bkt ?_; refine blk_put (cs := #[.int .i64 0, .int .i64 0, .slice none 0 0]) ?_ 0 _ rfl; refine bkt ?_; exact BK572.out) hb); have n6_ := Aside0.mk (below_step (hb3 HB GE556 GE565 GE572) hb); clear HO563; clear HO570; clear BK556; clear BK565; clear BK572; clear HB; have HO563 := n0_; have HO570 := n1_; have HO577 := n2_; have BK556 := n3_; have BK565 := n4_; have BK572 := n5_; have HB := n6_; clear n0_ n1_ n2_ n3_ n4_ n5_ n6_; (try clear hb); (try clear hb2); (try clear hk); (try clear hi); (try clear ho0)) | ((with_reducible refine gate_dst (N := 7) rfl ?_); refine box_event ?hg (N := 7) ?hd (cs := #[.int .i64 0, .int .i64 0, .slice none 0 0]) (t := 24) ?hr ?_; (case hd => rfl); (case hg => rfl); (case hr => first | (go_simp; done) | (go_simp; rfl)); intro gb579 hg w34 hbox hb; have n0_ := Aside0.mk (Kd.R_below (rkx HO563) hb); have n1_ := Aside0.mk (Kd.R_below (rkx HO570) hb); have n2_ := Aside0.mk (Kd.R_below (rkx HO577) hb); have n3_ := Aside0.mk (blk_below (bkx BK556) hb); have n4_ := Aside0.mk (blk_below (bkx BK565) hb); have n5_ := Aside0.mk (blk_below (bkx BK572) hb); have n6_ := Aside0.mk (below_step (hb3 HB GE556 GE565 GE572) hb); have n7_ := Aside0.mk (hbox); have n8_ := Aside0.mk ((by rw [hg]; exact (below_size (hb3 HB GE556 GE565 GE572)) : w.heap.size ≤ gb579)); have n9_ := Aside0.mk ((by rw [hg]; exact (below_size (hb3 HB GE556 GE565 GE572)) : w.heap.size ≤ gb579)); have n10_ := Aside0.mk (nel hg BK556 : gb556 ≠ gb579); have n11_ := Aside0.mk (neg hg BK556 : gb579 ≠ gb556); have n12_ := Aside0.mk (nel hg BK565 : gb565 ≠ gb579); have n13_ := Aside0.mk (neg hg BK565 : gb579 ≠ gb565); have n14_ := Aside0.mk (nel hg BK572 : gb572 ≠ gb579); have n15_ := Aside0.mk (neg hg BK572 : gb579 ≠ gb572); clear HO563; clear HO570; clear HO577; clear BK556; clear BK565; clear BK572; clear HB; have HO563 := n0_; have HO570 := n1_; have HO577 := n2_; have BK556 := n3_; have BK565 := n4_; have BK572 := n5_; have HB := n6_; have BK579 := n7_; have GW579 := n8_; have GE579 := n9_; have NB556_579 := n10_; have NB579_556 := n11_; have NB565_579 := n12_; have NB579_565 := n13_; have NB572_579 := n14_; have NB579_572 := n15_; clear n0_ n1_ n2_ n3_ n4_ n5_ n6_ n7_ n8_ n9_ n10_ n11_ n12_ n13_ n14_ n15_; clear hb hbox hg; have hnb35 := NB579_556.out; have hnc35 := NB556_579.out; have hnb36 := NB579_565.out; have hnc36 := NB565_579.out; have hnb37 := NB579_572.out; have hnc37 := NB572_579.out; have hcz38_0 : w34.cell? ⟨gb579, 0, none⟩ = some (.int .i64 0) := (blk_cell BK579.out 0).trans rfl; have hcz38_1 : w34.cell? ⟨gb579, 1, none⟩ = some (.int .i64 0) := (blk_cell BK579.out 1).trans rfl; have hcz38_2 : w34.cell? ⟨gb579, 2, none⟩ = some (.slice none 0 0) := (blk_cell BK579.out 2).trans rfl; have hfz38_0 := blk_frozen BK579.out 0; have hfz38_1 := blk_frozen BK579.out 1; have hfz38_2 := blk_frozen BK579.out 2; obtain ⟨Ao39, co39, eo39⟩ := Kd.R_slice HO577.out; subst eo39; have hcz40_0 : w34.cell? ⟨gb565, 0, none⟩ = some (.int .i64 t559) := (blk_cell BK565.out 0).trans rfl; have hcz40_1 : w34.cell? ⟨gb565, 1, none⟩ = some (.int .i64 t560) := (blk_cell BK565.out 1).trans rfl; have hcz40_2 : w34.cell? ⟨gb565, 2, none⟩ = some (.slice Ao24 t561.length co24) := (blk_cell BK565.out 2).trans rfl; have hfz40_0 := blk_frozen BK565.out 0; have hfz40_1 := blk_frozen BK565.out 1; have hfz40_2 := blk_frozen BK565.out 2; have hcz41_0 : w34.cell? ⟨gb556, 0, none⟩ = some (.int .i64 a0_0) := (blk_cell BK556.out 0).trans rfl; have hcz41_1 : w34.cell? ⟨gb556, 1, none⟩ = some (.int .i64 a0_1) := (blk_cell BK556.out 1).trans rfl; have hcz41_2 : w34.cell? ⟨gb556, 2, none⟩ = some (.slice A0_2 l0_2.length c0_2) := (blk_cell BK556.out 2).trans rfl; have hfz41_0 := blk_frozen BK556.out 0; have hfz41_1 := blk_frozen BK556.out 1; have hfz41_2 := blk_frozen BK556.out 2) | (go_at_call 22; (with_reducible refine (barscanlaw37_within.calls k t559 t560 _ _ t561 a0_0 a0_1 _ _ l0_2 true _ ?side1 ?side2 ?side3 ?side4 A10.out).mono ?_); (case side1 => refine (Kd.R_reads' (e := 4) (base := w.heap.size) (ok := fun k_ => ((True ∧ some k_ ≠ (.slice Ao31 t568.length co31 : Value).ownBlock) ∧ some k_ ≠ (.slice Ao39 t575.length co39 : Value).ownBlock)) (n := t561.length) (c := co24) ?_).2.2; exact (by refine rkt ?_; exact (far3 HO563 BK579))); (case side2 => exact (Kd.R_reads' HO563.out).2.1); (case side3 => exact Kd.C_below HR0_2.out (hb4 HB GE556 GE565 GE572 GE579)); (case side4 => exact HC0_2.out); rintro e w42 ⟨rfl, hb⟩; have n0_ := Aside0.mk (Kd.R_below (by refine rkt ?_; exact (far3 HO563 BK579)) hb); have n1_ := Aside0.mk (Kd.R_below (by refine rkt ?_; exact (far3 HO570 BK579)) hb); have n2_ := Aside0.mk (Kd.R_below (by refine rkt ?_; exact (far3 HO577 BK579)) hb); have n3_ := Aside0.mk (blk_below (g := gb556) (o := .cells #[.int .i64 a0_0, .int .i64 a0_1, .slice A0_2 l0_2.length c0_2] 24 (0, 0)) (bky BK556 NB556_579) hb); have n4_ := Aside0.mk (blk_below (g := gb565) (o := .cells #[.int .i64 t559, .int .i64 t560, .slice Ao24 t561.length co24] 24 (0, 0)) (bky BK565 NB565_579) hb); have n5_ := Aside0.mk (blk_below (g := gb572) (o := .cells #[.int .i64 t566, .int .i64 t567, .slice Ao31 t568.length co31] 24 (0, 0)) (bky BK572 NB572_579) hb); have n6_ := Aside0.mk (blk_below (g := gb579) (o := .cells #[.int .i64 t573, .int .i64 t574, .slice Ao39 t575.length co39] 24 (0, 0)) (by refine bkt ?_; refine blk_put (cs := #[.int .i64 t573, .int .i64 t574, .slice none 0 0]) ?_ 2 _ rfl; refine bkt ?_; refine blk_put (cs := #[.int .i64 t573, .int .i64 0, .slice none 0 0]) ?_ 1 _ rfl; refine bkt ?_; refine blk_put (cs := #[.int .i64 0, .int .i64 0, .slice none 0 0]) ?_ 0 _ rfl; refine bkt ?_; exact BK579.out) hb); have n7_ := Aside0.mk (below_step (hb4 HB GE556 GE565 GE572 GE579) hb); clear HO563; clear HO570; clear HO577; clear BK556; clear BK565; clear BK572; clear BK579; clear HB; have HO563 := n0_; have HO570 := n1_; have HO577 := n2_; have BK556 := n3_; have BK565 := n4_; have BK572 := n5_; have BK579 := n6_; have HB := n7_; clear n0_ n1_ n2_ n3_ n4_ n5_ n6_ n7_; (try clear hb); (try clear hb2); (try clear hk); (try clear hi); have hcz43_0 : w42.cell? ⟨gb572, 0, none⟩ = some (.int .i64 t566) := (blk_cell BK572.out 0).trans rfl; have hcz43_1 : w42.cell? ⟨gb572, 1, none⟩ = some (.int .i64 t567) := (blk_cell BK572.out 1).trans rfl; have hcz43_2 : w42.cell? ⟨gb572, 2, none⟩ = some (.slice Ao31 t568.length co31) := (blk_cell BK572.out 2).trans rfl; have hfz43_0 := blk_frozen BK572.out 0; have hfz43_1 := blk_frozen BK572.out 1; have hfz43_2 := blk_frozen BK572.out 2; have hcz44_0 : w42.cell? ⟨gb556, 0, none⟩ = some (.int .i64 a0_0) := (blk_cell BK556.out 0).trans rfl; have hcz44_1 : w42.cell? ⟨gb556, 1, none⟩ = some (.int .i64 a0_1) := (blk_cell BK556.out 1).trans rfl; have hcz44_2 : w42.cell? ⟨gb556, 2, none⟩ = some (.slice A0_2 l0_2.length c0_2) := (blk_cell BK556.out 2).trans rfl; have hfz44_0 := blk_frozen BK556.out 0; have hfz44_1 := blk_frozen BK556.out 1; have hfz44_2 := blk_frozen BK556.out 2) | (go_at_call 22; (with_reducible refine (barscanlaw37_within.calls k t566 t567 _ _ t568 a0_0 a0_1 _ _ l0_2 true _ ?side1 ?side2 ?side3 ?side4 A12.out).mono ?_); (case side1 => repeat (first | exact (Kd.R_reads' HO570.out).2.2 | (with_reducible refine Kd.C_alloc ?_ _) | (with_reducible refine Kd.C_drewN ?_ _) | (with_reducible refine Kd.C_drew ?_))); (case side2 => exact (Kd.R_reads' HO570.out).2.1); (case side3 => repeat (first | exact (Kd.C_below HR0_2.out HB.out) | (with_reducible refine Kd.C_alloc ?_ _) | (with_reducible refine Kd.C_drewN ?_ _) | (with_reducible refine Kd.C_drew ?_))); (case side4 => exact HC0_2.out); rintro e w45 ⟨rfl, hb⟩; have n0_ := Aside0.mk (Kd.R_below (rkx HO563) hb); have n1_ := Aside0.mk (Kd.R_below (rkx HO570) hb); have n2_ := Aside0.mk (Kd.R_below (rkx HO577) hb); have n3_ := Aside0.mk (blk_below (bkx BK556) hb); have n4_ := Aside0.mk (blk_below (bkx BK565) hb); have n5_ := Aside0.mk (blk_below (bkx BK572) hb); have n6_ := Aside0.mk (blk_below (bkx BK579) hb); have n7_ := Aside0.mk (below_step (hb4 HB GE556 GE565 GE572 GE579) hb); clear HO563; clear HO570; clear HO577; clear BK556; clear BK565; clear BK572; clear BK579; clear HB; have HO563 := n0_; have HO570 := n1_; have HO577 := n2_; have BK556 := n3_; have BK565 := n4_; have BK572 := n5_; have BK579 := n6_; have HB := n7_; clear n0_ n1_ n2_ n3_ n4_ n5_ n6_ n7_; (try clear hb); (try clear hb2); (try clear hk); (try clear hi); have hcz46_0 : w45.cell? ⟨gb579, 0, none⟩ = some (.int .i64 t573) := (blk_cell BK579.out 0).trans rfl; have hcz46_1 : w45.cell? ⟨gb579, 1, none⟩ = some (.int .i64 t574) := (blk_cell BK579.out 1).trans rfl; have hcz46_2 : w45.cell? ⟨gb579, 2, none⟩ = some (.slice Ao39 t575.length co39) := (blk_cell BK579.out 2).trans rfl; have hfz46_0 := blk_frozen BK579.out 0; have hfz46_1 := blk_frozen BK579.out 1; have hfz46_2 := blk_frozen BK579.out 2; have hcz47_0 : w45.cell? ⟨gb556, 0, none⟩ = some (.int .i64 a0_0) := (blk_cell BK556.out 0).trans rfl; have hcz47_1 : w45.cell? ⟨gb556, 1, none⟩ = some (.int .i64 a0_1) := (blk_cell BK556.out 1).trans rfl; have hcz47_2 : w45.cell? ⟨gb556, 2, none⟩ = some (.slice A0_2 l0_2.length c0_2) := (blk_cell BK556.out 2).trans rfl; have hfz47_0 := blk_frozen BK556.out 0; have hfz47_1 := blk_frozen BK556.out 1; have hfz47_2 := blk_frozen BK556.out 2) | (go_at_call 22; (with_reducible refine (barscanlaw37_within.calls k t573 t574 _ _ t575 a0_0 a0_1 _ _ l0_2 true _ ?side1 ?side2 ?side3 ?side4 A14.out).mono ?_); (case side1 => repeat (first | exact (Kd.R_reads' HO577.out).2.2 | (with_reducible refine Kd.C_alloc ?_ _) | (with_reducible refine Kd.C_drewN ?_ _) | (with_reducible refine Kd.C_drew ?_))); (case side2 => exact (Kd.R_reads' HO577.out).2.1); (case side3 => repeat (first | exact (Kd.C_below HR0_2.out HB.out) | (with_reducible refine Kd.C_alloc ?_ _) | (with_reducible refine Kd.C_drewN ?_ _) | (with_reducible refine Kd.C_drew ?_))); (case side4 => exact HC0_2.out); rintro e w48 ⟨rfl, hb⟩; have n0_ := Aside0.mk (Kd.R_below (rkx HO563) hb); have n1_ := Aside0.mk (Kd.R_below (rkx HO570) hb); have n2_ := Aside0.mk (Kd.R_below (rkx HO577) hb); have n3_ := Aside0.mk (blk_below (bkx BK556) hb); have n4_ := Aside0.mk (blk_below (bkx BK565) hb); have n5_ := Aside0.mk (blk_below (bkx BK572) hb); have n6_ := Aside0.mk (blk_below (bkx BK579) hb); have n7_ := Aside0.mk (below_step (hb4 HB GE556 GE565 GE572 GE579) hb); clear HO563; clear HO570; clear HO577; clear BK556; clear BK565; clear BK572; clear BK579; clear HB; have HO563 := n0_; have HO570 := n1_; have HO577 := n2_; have BK556 := n3_; have BK565 := n4_; have BK572 := n5_; have BK579 := n6_; have HB := n7_; clear n0_ n1_ n2_ n3_ n4_ n5_ n6_ n7_; (try clear hb); (try clear hb2); (try clear hk); (try clear hi); have hcz49_0 : w48.cell? ⟨gb556, 0, none⟩ = some (.int .i64 a0_0) := (blk_cell BK556.out 0).trans rfl; have hcz49_1 : w48.cell? ⟨gb556, 1, none⟩ = some (.int .i64 a0_1) := (blk_cell BK556.out 1).trans rfl; have hcz49_2 : w48.cell? ⟨gb556, 2, none⟩ = some (.slice A0_2 l0_2.length c0_2) := (blk_cell BK556.out 2).trans rfl; have hfz49_0 := blk_frozen BK556.out 0; have hfz49_1 := blk_frozen BK556.out 1; have hfz49_2 := blk_frozen BK556.out 2))
        repeat (go_quiet (first | ((with_reducible refine gate_dst (N := 1) rfl ?_); refine box_event ?hg (N := 1) ?hd (cs := #[.int .i64 a0_0, .int .i64 a0_1, .slice A0_2 l0_2.length c0_2]) (t := 24) ?hr ?_; (case hd => rfl); (case hg => rfl); (case hr => first | (go_simp; done) | (go_simp; rfl)); intro gb556 hg w16 hbox hb; have n0_ := Aside0.mk (below_step (hb0 HB) hb); have n1_ := Aside0.mk (hbox); have n2_ := Aside0.mk ((by rw [hg]; exact (below_size (hb0 HB)) : w.heap.size ≤ gb556)); have n3_ := Aside0.mk ((by rw [hg]; exact (below_size (hb0 HB)) : w.heap.size ≤ gb556)); clear HB; have HB := n0_; have BK556 := n1_; have GW556 := n2_; have GE556 := n3_; clear n0_ n1_ n2_ n3_; clear hb hbox hg; have hcz17_0 : w16.cell? ⟨gb556, 0, none⟩ = some (.int .i64 a0_0) := (blk_cell BK556.out 0).trans rfl; have hcz17_1 : w16.cell? ⟨gb556, 1, none⟩ = some (.int .i64 a0_1) := (blk_cell BK556.out 1).trans rfl; have hcz17_2 : w16.cell? ⟨gb556, 2, none⟩ = some (.slice A0_2 l0_2.length c0_2) := (blk_cell BK556.out 2).trans rfl; have hfz17_0 := blk_frozen BK556.out 0; have hfz17_1 := blk_frozen BK556.out 1; have hfz17_2 := blk_frozen BK556.out 2) | (go_at_call 23; (with_reducible refine (barscanlaw37_valid.calls a0_0 a0_1 _ _ l0_2 true _ ?side1 ?side2 A2.out).mono ?_); (case side1 => repeat (first | exact (Kd.C_below HR0_2.out HB.out) | (with_reducible refine Kd.C_alloc ?_ _) | (with_reducible refine Kd.C_drewN ?_ _) | (with_reducible refine Kd.C_drew ?_))); (case side2 => exact HC0_2.out); rintro e w18 ⟨rfl, hb⟩; have n0_ := Aside0.mk (blk_below (bkx BK556) hb); have n1_ := Aside0.mk (below_step (hb1 HB GE556) hb); clear BK556; clear HB; have BK556 := n0_; have HB := n1_; clear n0_ n1_; (try clear hb); (try clear hb2); (try clear hk); (try clear hi); have hcz19_0 : w18.cell? ⟨gb556, 0, none⟩ = some (.int .i64 a0_0) := (blk_cell BK556.out 0).trans rfl; have hcz19_1 : w18.cell? ⟨gb556, 1, none⟩ = some (.int .i64 a0_1) := (blk_cell BK556.out 1).trans rfl; have hcz19_2 : w18.cell? ⟨gb556, 2, none⟩ = some (.slice A0_2 l0_2.length c0_2) := (blk_cell BK556.out 2).trans rfl; have hfz19_0 := blk_frozen BK556.out 0; have hfz19_1 := blk_frozen BK556.out 1; have hfz19_2 := blk_frozen BK556.out 2) | (go_at_call 20; (with_reducible refine (morphology_Outline.calls k a0_0 a0_1 _ _ l0_2 t559 t560 t561 t564 _ ?side1 ?side2 A4.out).mono ?_); (case side1 => repeat (first | exact (Kd.C_below HR0_2.out HB.out) | (with_reducible refine Kd.C_alloc ?_ _) | (with_reducible refine Kd.C_drewN ?_ _) | (with_reducible refine Kd.C_drew ?_))); (case side2 => exact HC0_2.out); rintro e w20 ⟨v562, rfl, ho0, hb⟩; have n0_ := Aside0.mk (Kd.R_lower ho0 (below_size (hb1 HB GE556))); have n1_ := Aside0.mk (blk_below (bkx BK556) hb); have n2_ := Aside0.mk (below_step (hb1 HB GE556) hb); clear BK556; clear HB; have HO563 := n0_; have BK556 := n1_; have HB := n2_; clear n0_ n1_ n2_; (try clear hb); (try clear hb2); (try clear hk); (try clear hi); (try clear ho0)) | ((with_reducible refine gate_dst (N := 3) rfl ?_); refine box_event ?hg (N := 3) ?hd (cs := #[.int .i64 0, .int .i64 0, .slice none 0 0]) (t := 24) ?hr ?_; (case hd => rfl); (case hg => rfl); (case hr => first | (go_simp; done) | (go_simp; rfl)); intro gb565 hg w21 hbox hb; have n0_ := Aside0.mk (Kd.R_below (rkx HO563) hb); have n1_ := Aside0.mk (blk_below (bkx BK556) hb); have n2_ := Aside0.mk (below_step (hb1 HB GE556) hb); have n3_ := Aside0.mk (hbox); have n4_ := Aside0.mk ((by rw [hg]; exact (below_size (hb1 HB GE556)) : w.heap.size ≤ gb565)); have n5_ := Aside0.mk ((by rw [hg]; exact (below_size (hb1 HB GE556)) : w.heap.size ≤ gb565)); have n6_ := Aside0.mk (nel hg BK556 : gb556 ≠ gb565); have n7_ := Aside0.mk (neg hg BK556 : gb565 ≠ gb556); clear HO563; clear BK556; clear HB; have HO563 := n0_; have BK556 := n1_; have HB := n2_; have BK565 := n3_; have GW565 := n4_; have GE565 := n5_; have NB556_565 := n6_; have NB565_556 := n7_; clear n0_ n1_ n2_ n3_ n4_ n5_ n6_ n7_; clear hb hbox hg; have hnb22 := NB565_556.out; have hnc22 := NB556_565.out; have hcz23_0 : w21.cell? ⟨gb565, 0, none⟩ = some (.int .i64 0) := (blk_cell BK565.out 0).trans rfl; have hcz23_1 : w21.cell? ⟨gb565, 1, none⟩ = some (.int .i64 0) := (blk_cell BK565.out 1).trans rfl; have hcz23_2 : w21.cell? ⟨gb565, 2, none⟩ = some (.slice none 0 0) := (blk_cell BK565.out 2).trans rfl; have hfz23_0 := blk_frozen BK565.out 0; have hfz23_1 := blk_frozen BK565.out 1; have hfz23_2 := blk_frozen BK565.out 2; obtain ⟨Ao24, co24, eo24⟩ := Kd.R_slice HO563.out; subst eo24; have hcz25_0 : w21.cell? ⟨gb556, 0, none⟩ = some (.int .i64 a0_0) := (blk_cell BK556.out 0).trans rfl; have hcz25_1 : w21.cell? ⟨gb556, 1, none⟩ = some (.int .i64 a0_1) := (blk_cell BK556.out 1).trans rfl; have hcz25_2 : w21.cell? ⟨gb556, 2, none⟩ = some (.slice A0_2 l0_2.length c0_2) := (blk_cell BK556.out 2).trans rfl; have hfz25_0 := blk_frozen BK556.out 0; have hfz25_1 := blk_frozen BK556.out 1; have hfz25_2 := blk_frozen BK556.out 2) | (go_at_call 24; (with_reducible refine (morphology_Erode.calls k a0_0 a0_1 _ _ l0_2 1 0 t566 t567 t568 t571 _ ?side1 ?side2 A5.out).mono ?_); (case side1 => exact Kd.C_below HR0_2.out (hb2 HB GE556 GE565)); (case side2 => exact HC0_2.out); rintro e w26 ⟨v569, rfl, ho0, hb⟩; have n0_ := Aside0.mk (Kd.R_elder' (by refine rkt ?_; exact (far3 HO563 BK565)) (Kd.R_base ho0) hb); have n1_ := Aside0.mk (Kd.R_lower (Kd.R_new' ho0 (Kd.R_lt (by refine rkt ?_; exact (far3 HO563 BK565)))) (below_size (hb2 HB GE556 GE565))); have n2_ := Aside0.mk (blk_below (g := gb556) (o := .cells #[.int .i64 a0_0, .int .i64 a0_1, .slice A0_2 l0_2.length c0_2] 24 (0, 0)) (bky BK556 NB556_565) hb); have n3_ := Aside0.mk (blk_below (g := gb565) (o := .cells #[.int .i64 t559, .int .i64 t560, .slice Ao24 t561.length co24] 24 (0, 0)) (by refine bkt ?_; refine blk_put (cs := #[.int .i64 t559, .int .i64 t560, .slice none 0 0]) ?_ 2 _ rfl; refine bkt ?_; refine blk_put (cs := #[.int .i64 t559, .int .i64 0, .slice none 0 0]) ?_ 1 _ rfl; refine bkt ?_; refine blk_put (cs := #[.int .i64 0, .int .i64 0, .slice none 0 0]) ?_ 0 _ rfl; refine bkt ?_; exact BK565.out) hb); have n4_ := Aside0.mk (below_step (hb2 HB GE556 GE565) hb); clear HO563; clear BK556; clear BK565; clear HB; have HO563 := n0_; have HO570 := n1_; have BK556 := n2_; have BK565 := n3_; have HB := n4_; clear n0_ n1_ n2_ n3_ n4_; (try clear hb); (try clear hb2); (try clear hk); (try clear hi); (try clear ho0)) | ((with_reducible refine gate_dst (N := 5) rfl ?_); refine box_event ?hg (N := 5) ?hd (cs := #[.int .i64 0, .int .i64 0, .slice none 0 0]) (t := 24) ?hr ?_; (case hd => rfl); (case hg => rfl); (case hr => first | (go_simp; done) | (go_simp; rfl)); intro gb572 hg w27 hbox hb; have n0_ := Aside0.mk (Kd.R_below (rkx HO563) hb); have n1_ := Aside0.mk (Kd.R_below (rkx HO570) hb); have n2_ := Aside0.mk (blk_below (bkx BK556) hb); have n3_ := Aside0.mk (blk_below (bkx BK565) hb); have n4_ := Aside0.mk (below_step (hb2 HB GE556 GE565) hb); have n5_ := Aside0.mk (hbox); have n6_ := Aside0.mk ((by rw [hg]; exact (below_size (hb2 HB GE556 GE565)) : w.heap.size ≤ gb572)); have n7_ := Aside0.mk ((by rw [hg]; exact (below_size (hb2 HB GE556 GE565)) : w.heap.size ≤ gb572)); have n8_ := Aside0.mk (nel hg BK556 : gb556 ≠ gb572); have n9_ := Aside0.mk (neg hg BK556 : gb572 ≠ gb556); have n10_ := Aside0.mk (nel hg BK565 : gb565 ≠ gb572); have n11_ := Aside0.mk (neg hg BK565 : gb572 ≠ gb565); clear HO563; clear HO570; clear BK556; clear BK565; clear HB; have HO563 := n0_; have HO570 := n1_; have BK556 := n2_; have BK565 := n3_; have HB := n4_; have BK572 := n5_; have GW572 := n6_; have GE572 := n7_; have NB556_572 := n8_; have NB572_556 := n9_; have NB565_572 := n10_; have NB572_565 := n11_; clear n0_ n1_ n2_ n3_ n4_ n5_ n6_ n7_ n8_ n9_ n10_ n11_; clear hb hbox hg; have hnb28 := NB572_556.out; have hnc28 := NB556_572.out; have hnb29 := NB572_565.out; have hnc29 := NB565_572.out; have hcz30_0 : w27.cell? ⟨gb572, 0, none⟩ = some (.int .i64 0) := (blk_cell BK572.out 0).trans rfl; have hcz30_1 : w27.cell? ⟨gb572, 1, none⟩ = some (.int .i64 0) := (blk_cell BK572.out 1).trans rfl; have hcz30_2 : w27.cell? ⟨gb572, 2, none⟩ = some (.slice none 0 0) := (blk_cell BK572.out 2).trans rfl; have hfz30_0 := blk_frozen BK572.out 0; have hfz30_1 := blk_frozen BK572.out 1; have hfz30_2 := blk_frozen BK572.out 2; obtain ⟨Ao31, co31, eo31⟩ := Kd.R_slice HO570.out; subst eo31; have hcz32_0 : w27.cell? ⟨gb556, 0, none⟩ = some (.int .i64 a0_0) := (blk_cell BK556.out 0).trans rfl; have hcz32_1 : w27.cell? ⟨gb556, 1, none⟩ = some (.int .i64 a0_1) := (blk_cell BK556.out 1).trans rfl; have hcz32_2 : w27.cell? ⟨gb556, 2, none⟩ = some (.slice A0_2 l0_2.length c0_2) := (blk_cell BK556.out 2).trans rfl; have hfz32_0 := blk_frozen BK556.out 0; have hfz32_1 := blk_frozen BK556.out 1; have hfz32_2 := blk_frozen BK556.out 2) | (go_at_call 24; (with_reducible refine (morphology_Erode.calls k a0_0 a0_1 _ _ l0_2 0 1 t573 t574 t575 t578 _ ?side1 ?side2 A6.out).mono ?_); (case side1 => exact Kd.C_below HR0_2.out (hb3 HB GE556 GE565 GE572)); (case side2 => exact HC0_2.out); rintro e w33 ⟨v576, rfl, ho0, hb⟩; have n0_ := Aside0.mk (Kd.R_elder' (by refine rkt ?_; exact (far3 HO563 BK572)) (Kd.R_base ho0) hb); have n1_ := Aside0.mk (Kd.R_elder' (by refine rkt ?_; exact (far3 HO570 BK572)) (Kd.R_base ho0) hb); have n2_ := Aside0.mk (Kd.R_lower (Kd.R_new' (Kd.R_new' ho0 (Kd.R_lt (by refine rkt ?_; exact (far3 HO563 BK572)))) (Kd.R_lt (by refine rkt ?_; exact (far3 HO570 BK572)))) (below_size (hb3 HB GE556 GE565 GE572))); have n3_ := Aside0.mk (blk_below (g := gb556) (o := .cells #[.int .i64 a0_0, .int .i64 a0_1, .slice A0_2 l0_2.length c0_2] 24 (0, 0)) (bky BK556 NB556_572) hb); have n4_ := Aside0.mk (blk_below (g := gb565) (o := .cells #[.int .i64 t559, .int .i64 t560, .slice Ao24 t561.length co24] 24 (0, 0)) (bky BK565 NB565_572) hb); have n5_ := Aside0.mk (blk_below (g := gb572) (o := .cells #[.int .i64 t566, .int .i64 t567, .slice Ao31 t568.length co31] 24 (0, 0)) (by refine bkt ?_; refine blk_put (cs := #[.int .i64 t566, .int .i64 t567, .slice none 0 0]) ?_ 2 _ rfl; refine bkt ?_; refine blk_put (cs := #[.int .i64 t566, .int .i64 0, .slice none 0 0]) ?_ 1 _ rfl; refine bkt ?_; refine blk_put (cs := #[.int .i64 0, .int .i64 0, .slice none 0 0]) ?_ 0 _ rfl; refine bkt ?_; exact BK572.out) hb); have n6_ := Aside0.mk (below_step (hb3 HB GE556 GE565 GE572) hb); clear HO563; clear HO570; clear BK556; clear BK565; clear BK572; clear HB; have HO563 := n0_; have HO570 := n1_; have HO577 := n2_; have BK556 := n3_; have BK565 := n4_; have BK572 := n5_; have HB := n6_; clear n0_ n1_ n2_ n3_ n4_ n5_ n6_; (try clear hb); (try clear hb2); (try clear hk); (try clear hi); (try clear ho0)) | ((with_reducible refine gate_dst (N := 7) rfl ?_); refine box_event ?hg (N := 7) ?hd (cs := #[.int .i64 0, .int .i64 0, .slice none 0 0]) (t := 24) ?hr ?_; (case hd => rfl); (case hg => rfl); (case hr => first | (go_simp; done) | (go_simp; rfl)); intro gb579 hg w34 hbox hb; have n0_ := Aside0.mk (Kd.R_below (rkx HO563) hb); have n1_ := Aside0.mk (Kd.R_below (rkx HO570) hb); have n2_ := Aside0.mk (Kd.R_below (rkx HO577) hb); have n3_ := Aside0.mk (blk_below (bkx BK556) hb); have n4_ := Aside0.mk (blk_below (bkx BK565) hb); have n5_ := Aside0.mk (blk_below (bkx BK572) hb); have n6_ := Aside0.mk (below_step (hb3 HB GE556 GE565 GE572) hb); have n7_ := Aside0.mk (hbox); have n8_ := Aside0.mk ((by rw [hg]; exact (below_size (hb3 HB GE556 GE565 GE572)) : w.heap.size ≤ gb579)); have n9_ := Aside0.mk ((by rw [hg]; exact (below_size (hb3 HB GE556 GE565 GE572)) : w.heap.size ≤ gb579)); have n10_ := Aside0.mk (nel hg BK556 : gb556 ≠ gb579); have n11_ := Aside0.mk (neg hg BK556 : gb579 ≠ gb556); have n12_ := Aside0.mk (nel hg BK565 : gb565 ≠ gb579); have n13_ := Aside0.mk (neg hg BK565 : gb579 ≠ gb565); have n14_ := Aside0.mk (nel hg BK572 : gb572 ≠ gb579); have n15_ := Aside0.mk (neg hg BK572 : gb579 ≠ gb572); clear HO563; clear HO570; clear HO577; clear BK556; clear BK565; clear BK572; clear HB; have HO563 := n0_; have HO570 := n1_; have HO577 := n2_; have BK556 := n3_; have BK565 := n4_; have BK572 := n5_; have HB := n6_; have BK579 := n7_; have GW579 := n8_; have GE579 := n9_; have NB556_579 := n10_; have NB579_556 := n11_; have NB565_579 := n12_; have NB579_565 := n13_; have NB572_579 := n14_; have NB579_572 := n15_; clear n0_ n1_ n2_ n3_ n4_ n5_ n6_ n7_ n8_ n9_ n10_ n11_ n12_ n13_ n14_ n15_; clear hb hbox hg; have hnb35 := NB579_556.out; have hnc35 := NB556_579.out; have hnb36 := NB579_565.out; have hnc36 := NB565_579.out; have hnb37 := NB579_572.out; have hnc37 := NB572_579.out; have hcz38_0 : w34.cell? ⟨gb579, 0, none⟩ = some (.int .i64 0) := (blk_cell BK579.out 0).trans rfl; have hcz38_1 : w34.cell? ⟨gb579, 1, none⟩ = some (.int .i64 0) := (blk_cell BK579.out 1).trans rfl; have hcz38_2 : w34.cell? ⟨gb579, 2, none⟩ = some (.slice none 0 0) := (blk_cell BK579.out 2).trans rfl; have hfz38_0 := blk_frozen BK579.out 0; have hfz38_1 := blk_frozen BK579.out 1; have hfz38_2 := blk_frozen BK579.out 2; obtain ⟨Ao39, co39, eo39⟩ := Kd.R_slice HO577.out; subst eo39; have hcz40_0 : w34.cell? ⟨gb565, 0, none⟩ = some (.int .i64 t559) := (blk_cell BK565.out 0).trans rfl; have hcz40_1 : w34.cell? ⟨gb565, 1, none⟩ = some (.int .i64 t560) := (blk_cell BK565.out 1).trans rfl; have hcz40_2 : w34.cell? ⟨gb565, 2, none⟩ = some (.slice Ao24 t561.length co24) := (blk_cell BK565.out 2).trans rfl; have hfz40_0 := blk_frozen BK565.out 0; have hfz40_1 := blk_frozen BK565.out 1; have hfz40_2 := blk_frozen BK565.out 2; have hcz41_0 : w34.cell? ⟨gb556, 0, none⟩ = some (.int .i64 a0_0) := (blk_cell BK556.out 0).trans rfl; have hcz41_1 : w34.cell? ⟨gb556, 1, none⟩ = some (.int .i64 a0_1) := (blk_cell BK556.out 1).trans rfl; have hcz41_2 : w34.cell? ⟨gb556, 2, none⟩ = some (.slice A0_2 l0_2.length c0_2) := (blk_cell BK556.out 2).trans rfl; have hfz41_0 := blk_frozen BK556.out 0; have hfz41_1 := blk_frozen BK556.out 1; have hfz41_2 := blk_frozen BK556.out 2) | (go_at_call 22; (with_reducible refine (barscanlaw37_within.calls k t559 t560 _ _ t561 a0_0 a0_1 _ _ l0_2 true _ ?side1 ?side2 ?side3 ?side4 A10.out).mono ?_); (case side1 => refine (Kd.R_reads' (e := 4) (base := w.heap.size) (ok := fun k_ => ((True ∧ some k_ ≠ (.slice Ao31 t568.length co31 : Value).ownBlock) ∧ some k_ ≠ (.slice Ao39 t575.length co39 : Value).ownBlock)) (n := t561.length) (c := co24) ?_).2.2; exact (by refine rkt ?_; exact (far3 HO563 BK579))); (case side2 => exact (Kd.R_reads' HO563.out).2.1); (case side3 => exact Kd.C_below HR0_2.out (hb4 HB GE556 GE565 GE572 GE579)); (case side4 => exact HC0_2.out); rintro e w42 ⟨rfl, hb⟩; have n0_ := Aside0.mk (Kd.R_below (by refine rkt ?_; exact (far3 HO563 BK579)) hb); have n1_ := Aside0.mk (Kd.R_below (by refine rkt ?_; exact (far3 HO570 BK579)) hb); have n2_ := Aside0.mk (Kd.R_below (by refine rkt ?_; exact (far3 HO577 BK579)) hb); have n3_ := Aside0.mk (blk_below (g := gb556) (o := .cells #[.int .i64 a0_0, .int .i64 a0_1, .slice A0_2 l0_2.length c0_2] 24 (0, 0)) (bky BK556 NB556_579) hb); have n4_ := Aside0.mk (blk_below (g := gb565) (o := .cells #[.int .i64 t559, .int .i64 t560, .slice Ao24 t561.length co24] 24 (0, 0)) (bky BK565 NB565_579) hb); have n5_ := Aside0.mk (blk_below (g := gb572) (o := .cells #[.int .i64 t566, .int .i64 t567, .slice Ao31 t568.length co31] 24 (0, 0)) (bky BK572 NB572_579) hb); have n6_ := Aside0.mk (blk_below (g := gb579) (o := .cells #[.int .i64 t573, .int .i64 t574, .slice Ao39 t575.length co39] 24 (0, 0)) (by refine bkt ?_; refine blk_put (cs := #[.int .i64 t573, .int .i64 t574, .slice none 0 0]) ?_ 2 _ rfl; refine bkt ?_; refine blk_put (cs := #[.int .i64 t573, .int .i64 0, .slice none 0 0]) ?_ 1 _ rfl; refine bkt ?_; refine blk_put (cs := #[.int .i64 0, .int .i64 0, .slice none 0 0]) ?_ 0 _ rfl; refine bkt ?_; exact BK579.out) hb); have n7_ := Aside0.mk (below_step (hb4 HB GE556 GE565 GE572 GE579) hb); clear HO563; clear HO570; clear HO577; clear BK556; clear BK565; clear BK572; clear BK579; clear HB; have HO563 := n0_; have HO570 := n1_; have HO577 := n2_; have BK556 := n3_; have BK565 := n4_; have BK572 := n5_; have BK579 := n6_; have HB := n7_; clear n0_ n1_ n2_ n3_ n4_ n5_ n6_ n7_; (try clear hb); (try clear hb2); (try clear hk); (try clear hi); have hcz43_0 : w42.cell? ⟨gb572, 0, none⟩ = some (.int .i64 t566) := (blk_cell BK572.out 0).trans rfl; have hcz43_1 : w42.cell? ⟨gb572, 1, none⟩ = some (.int .i64 t567) := (blk_cell BK572.out 1).trans rfl; have hcz43_2 : w42.cell? ⟨gb572, 2, none⟩ = some (.slice Ao31 t568.length co31) := (blk_cell BK572.out 2).trans rfl; have hfz43_0 := blk_frozen BK572.out 0; have hfz43_1 := blk_frozen BK572.out 1; have hfz43_2 := blk_frozen BK572.out 2; have hcz44_0 : w42.cell? ⟨gb556, 0, none⟩ = some (.int .i64 a0_0) := (blk_cell BK556.out 0).trans rfl; have hcz44_1 : w42.cell? ⟨gb556, 1, none⟩ = some (.int .i64 a0_1) := (blk_cell BK556.out 1).trans rfl; have hcz44_2 : w42.cell? ⟨gb556, 2, none⟩ = some (.slice A0_2 l0_2.length c0_2) := (blk_cell BK556.out 2).trans rfl; have hfz44_0 := blk_frozen BK556.out 0; have hfz44_1 := blk_frozen BK556.out 1; have hfz44_2 := blk_frozen BK556.out 2) | (go_at_call 22; (with_reducible refine (barscanlaw37_within.calls k t566 t567 _ _ t568 a0_0 a0_1 _ _ l0_2 true _ ?side1 ?side2 ?side3 ?side4 A12.out).mono ?_); (case side1 => repeat (first | exact (Kd.R_reads' HO570.out).2.2 | (with_reducible refine Kd.C_alloc ?_ _) | (with_reducible refine Kd.C_drewN ?_ _) | (with_reducible refine Kd.C_drew ?_))); (case side2 => exact (Kd.R_reads' HO570.out).2.1); (case side3 => repeat (first | exact (Kd.C_below HR0_2.out HB.out) | (with_reducible refine Kd.C_alloc ?_ _) | (with_reducible refine Kd.C_drewN ?_ _) | (with_reducible refine Kd.C_drew ?_))); (case side4 => exact HC0_2.out); rintro e w45 ⟨rfl, hb⟩; have n0_ := Aside0.mk (Kd.R_below (rkx HO563) hb); have n1_ := Aside0.mk (Kd.R_below (rkx HO570) hb); have n2_ := Aside0.mk (Kd.R_below (rkx HO577) hb); have n3_ := Aside0.mk (blk_below (bkx BK556) hb); have n4_ := Aside0.mk (blk_below (bkx BK565) hb); have n5_ := Aside0.mk (blk_below (bkx BK572) hb); have n6_ := Aside0.mk (blk_below (bkx BK579) hb); have n7_ := Aside0.mk (below_step (hb4 HB GE556 GE565 GE572 GE579) hb); clear HO563; clear HO570; clear HO577; clear BK556; clear BK565; clear BK572; clear BK579; clear HB; have HO563 := n0_; have HO570 := n1_; have HO577 := n2_; have BK556 := n3_; have BK565 := n4_; have BK572 := n5_; have BK579 := n6_; have HB := n7_; clear n0_ n1_ n2_ n3_ n4_ n5_ n6_ n7_; (try clear hb); (try clear hb2); (try clear hk); (try clear hi); have hcz46_0 : w45.cell? ⟨gb579, 0, none⟩ = some (.int .i64 t573) := (blk_cell BK579.out 0).trans rfl; have hcz46_1 : w45.cell? ⟨gb579, 1, none⟩ = some (.int .i64 t574) := (blk_cell BK579.out 1).trans rfl; have hcz46_2 : w45.cell? ⟨gb579, 2, none⟩ = some (.slice Ao39 t575.length co39) := (blk_cell BK579.out 2).trans rfl; have hfz46_0 := blk_frozen BK579.out 0; have hfz46_1 := blk_frozen BK579.out 1; have hfz46_2 := blk_frozen BK579.out 2; have hcz47_0 : w45.cell? ⟨gb556, 0, none⟩ = some (.int .i64 a0_0) := (blk_cell BK556.out 0).trans rfl; have hcz47_1 : w45.cell? ⟨gb556, 1, none⟩ = some (.int .i64 a0_1) := (blk_cell BK556.out 1).trans rfl; have hcz47_2 : w45.cell? ⟨gb556, 2, none⟩ = some (.slice A0_2 l0_2.length c0_2) := (blk_cell BK556.out 2).trans rfl; have hfz47_0 := blk_frozen BK556.out 0; have hfz47_1 := blk_frozen BK556.out 1; have hfz47_2 := blk_frozen BK556.out 2) | (go_at_call 22; (with_reducible refine (barscanlaw37_within.calls k t573 t574 _ _ t575 a0_0 a0_1 _ _ l0_2 true _ ?side1 ?side2 ?side3 ?side4 A14.out).mono ?_); (case side1 => repeat (first | exact (Kd.R_reads' HO577.out).2.2 | (with_reducible refine Kd.C_alloc ?_ _) | (with_reducible refine Kd.C_drewN ?_ _) | (with_reducible refine Kd.C_drew ?_))); (case side2 => exact (Kd.R_reads' HO577.out).2.1); (case side3 => repeat (first | exact (Kd.C_below HR0_2.out HB.out) | (with_reducible refine Kd.C_alloc ?_ _) | (with_reducible refine Kd.C_drewN ?_ _) | (with_reducible refine Kd.C_drew ?_))); (case side4 => exact HC0_2.out); rintro e w48 ⟨rfl, hb⟩; have n0_ := Aside0.mk (Kd.R_below (rkx HO563) hb); have n1_ := Aside0.mk (Kd.R_below (rkx HO570) hb); have n2_ := Aside0.mk (Kd.R_below (rkx HO577) hb); have n3_ := Aside0.mk (blk_below (bkx BK556) hb); have n4_ := Aside0.mk (blk_below (bkx BK565) hb); have n5_ := Aside0.mk (blk_below (bkx BK572) hb); have n6_ := Aside0.mk (blk_below (bkx BK579) hb); have n7_ := Aside0.mk (below_step (hb4 HB GE556 GE565 GE572 GE579) hb); clear HO563; clear HO570; clear HO577; clear BK556; clear BK565; clear BK572; clear BK579; clear HB; have HO563 := n0_; have HO570 := n1_; have HO577 := n2_; have BK556 := n3_; have BK565 := n4_; have BK572 := n5_; have BK579 := n6_; have HB := n7_; clear n0_ n1_ n2_ n3_ n4_ n5_ n6_ n7_; (try clear hb); (try clear hb2); (try clear hk); (try clear hi); have hcz49_0 : w48.cell? ⟨gb556, 0, none⟩ = some (.int .i64 a0_0) := (blk_cell BK556.out 0).trans rfl; have hcz49_1 : w48.cell? ⟨gb556, 1, none⟩ = some (.int .i64 a0_1) := (blk_cell BK556.out 1).trans rfl; have hcz49_2 : w48.cell? ⟨gb556, 2, none⟩ = some (.slice A0_2 l0_2.length c0_2) := (blk_cell BK556.out 2).trans rfl; have hfz49_0 := blk_frozen BK556.out 0; have hfz49_1 := blk_frozen BK556.out 1; have hfz49_2 := blk_frozen BK556.out 2)); try go_wp2_with (first | ((with_reducible refine gate_dst (N := 1) rfl ?_); refine box_event ?hg (N := 1) ?hd (cs := #[.int .i64 a0_0, .int .i64 a0_1, .slice A0_2 l0_2.length c0_2]) (t := 24) ?hr ?_; (case hd => rfl); (case hg => rfl); (case hr => first | (go_simp; done) | (go_simp; rfl)); intro gb556 hg w16 hbox hb; have n0_ := Aside0.mk (below_step (hb0 HB) hb); have n1_ := Aside0.mk (hbox); have n2_ := Aside0.mk ((by rw [hg]; exact (below_size (hb0 HB)) : w.heap.size ≤ gb556)); have n3_ := Aside0.mk ((by rw [hg]; exact (below_size (hb0 HB)) : w.heap.size ≤ gb556)); clear HB; have HB := n0_; have BK556 := n1_; have GW556 := n2_; have GE556 := n3_; clear n0_ n1_ n2_ n3_; clear hb hbox hg; have hcz17_0 : w16.cell? ⟨gb556, 0, none⟩ = some (.int .i64 a0_0) := (blk_cell BK556.out 0).trans rfl; have hcz17_1 : w16.cell? ⟨gb556, 1, none⟩ = some (.int .i64 a0_1) := (blk_cell BK556.out 1).trans rfl; have hcz17_2 : w16.cell? ⟨gb556, 2, none⟩ = some (.slice A0_2 l0_2.length c0_2) := (blk_cell BK556.out 2).trans rfl; have hfz17_0 := blk_frozen BK556.out 0; have hfz17_1 := blk_frozen BK556.out 1; have hfz17_2 := blk_frozen BK556.out 2) | (go_at_call 23; (with_reducible refine (barscanlaw37_valid.calls a0_0 a0_1 _ _ l0_2 true _ ?side1 ?side2 A2.out).mono ?_); (case side1 => repeat (first | exact (Kd.C_below HR0_2.out HB.out) | (with_reducible refine Kd.C_alloc ?_ _) | (with_reducible refine Kd.C_drewN ?_ _) | (with_reducible refine Kd.C_drew ?_))); (case side2 => exact HC0_2.out); rintro e w18 ⟨rfl, hb⟩; have n0_ := Aside0.mk (blk_below (bkx BK556) hb); have n1_ := Aside0.mk (below_step (hb1 HB GE556) hb); clear BK556; clear HB; have BK556 := n0_; have HB := n1_; clear n0_ n1_; (try clear hb); (try clear hb2); (try clear hk); (try clear hi); have hcz19_0 : w18.cell? ⟨gb556, 0, none⟩ = some (.int .i64 a0_0) := (blk_cell BK556.out 0).trans rfl; have hcz19_1 : w18.cell? ⟨gb556, 1, none⟩ = some (.int .i64 a0_1) := (blk_cell BK556.out 1).trans rfl; have hcz19_2 : w18.cell? ⟨gb556, 2, none⟩ = some (.slice A0_2 l0_2.length c0_2) := (blk_cell BK556.out 2).trans rfl; have hfz19_0 := blk_frozen BK556.out 0; have hfz19_1 := blk_frozen BK556.out 1; have hfz19_2 := blk_frozen BK556.out 2) | (go_at_call 20; (with_reducible refine (morphology_Outline.calls k a0_0 a0_1 _ _ l0_2 t559 t560 t561 t564 _ ?side1 ?side2 A4.out).mono ?_); (case side1 => repeat (first | exact (Kd.C_below HR0_2.out HB.out) | (with_reducible refine Kd.C_alloc ?_ _) | (with_reducible refine Kd.C_drewN ?_ _) | (with_reducible refine Kd.C_drew ?_))); (case side2 => exact HC0_2.out); rintro e w20 ⟨v562, rfl, ho0, hb⟩; have n0_ := Aside0.mk (Kd.R_lower ho0 (below_size (hb1 HB GE556))); have n1_ := Aside0.mk (blk_below (bkx BK556) hb); have n2_ := Aside0.mk (below_step (hb1 HB GE556) hb); clear BK556; clear HB; have HO563 := n0_; have BK556 := n1_; have HB := n2_; clear n0_ n1_ n2_; (try clear hb); (try clear hb2); (try clear hk); (try clear hi); (try clear ho0)) | ((with_reducible refine gate_dst (N := 3) rfl ?_); refine box_event ?hg (N := 3) ?hd (cs := #[.int .i64 0, .int .i64 0, .slice none 0 0]) (t := 24) ?hr ?_; (case hd => rfl); (case hg => rfl); (case hr => first | (go_simp; done) | (go_simp; rfl)); intro gb565 hg w21 hbox hb; have n0_ := Aside0.mk (Kd.R_below (rkx HO563) hb); have n1_ := Aside0.mk (blk_below (bkx BK556) hb); have n2_ := Aside0.mk (below_step (hb1 HB GE556) hb); have n3_ := Aside0.mk (hbox); have n4_ := Aside0.mk ((by rw [hg]; exact (below_size (hb1 HB GE556)) : w.heap.size ≤ gb565)); have n5_ := Aside0.mk ((by rw [hg]; exact (below_size (hb1 HB GE556)) : w.heap.size ≤ gb565)); have n6_ := Aside0.mk (nel hg BK556 : gb556 ≠ gb565); have n7_ := Aside0.mk (neg hg BK556 : gb565 ≠ gb556); clear HO563; clear BK556; clear HB; have HO563 := n0_; have BK556 := n1_; have HB := n2_; have BK565 := n3_; have GW565 := n4_; have GE565 := n5_; have NB556_565 := n6_; have NB565_556 := n7_; clear n0_ n1_ n2_ n3_ n4_ n5_ n6_ n7_; clear hb hbox hg; have hnb22 := NB565_556.out; have hnc22 := NB556_565.out; have hcz23_0 : w21.cell? ⟨gb565, 0, none⟩ = some (.int .i64 0) := (blk_cell BK565.out 0).trans rfl; have hcz23_1 : w21.cell? ⟨gb565, 1, none⟩ = some (.int .i64 0) := (blk_cell BK565.out 1).trans rfl; have hcz23_2 : w21.cell? ⟨gb565, 2, none⟩ = some (.slice none 0 0) := (blk_cell BK565.out 2).trans rfl; have hfz23_0 := blk_frozen BK565.out 0; have hfz23_1 := blk_frozen BK565.out 1; have hfz23_2 := blk_frozen BK565.out 2; obtain ⟨Ao24, co24, eo24⟩ := Kd.R_slice HO563.out; subst eo24; have hcz25_0 : w21.cell? ⟨gb556, 0, none⟩ = some (.int .i64 a0_0) := (blk_cell BK556.out 0).trans rfl; have hcz25_1 : w21.cell? ⟨gb556, 1, none⟩ = some (.int .i64 a0_1) := (blk_cell BK556.out 1).trans rfl; have hcz25_2 : w21.cell? ⟨gb556, 2, none⟩ = some (.slice A0_2 l0_2.length c0_2) := (blk_cell BK556.out 2).trans rfl; have hfz25_0 := blk_frozen BK556.out 0; have hfz25_1 := blk_frozen BK556.out 1; have hfz25_2 := blk_frozen BK556.out 2) | (go_at_call 24; (with_reducible refine (morphology_Erode.calls k a0_0 a0_1 _ _ l0_2 1 0 t566 t567 t568 t571 _ ?side1 ?side2 A5.out).mono ?_); (case side1 => exact Kd.C_below HR0_2.out (hb2 HB GE556 GE565)); (case side2 => exact HC0_2.out); rintro e w26 ⟨v569, rfl, ho0, hb⟩; have n0_ := Aside0.mk (Kd.R_elder' (by refine rkt ?_; exact (far3 HO563 BK565)) (Kd.R_base ho0) hb); have n1_ := Aside0.mk (Kd.R_lower (Kd.R_new' ho0 (Kd.R_lt (by refine rkt ?_; exact (far3 HO563 BK565)))) (below_size (hb2 HB GE556 GE565))); have n2_ := Aside0.mk (blk_below (g := gb556) (o := .cells #[.int .i64 a0_0, .int .i64 a0_1, .slice A0_2 l0_2.length c0_2] 24 (0, 0)) (bky BK556 NB556_565) hb); have n3_ := Aside0.mk (blk_below (g := gb565) (o := .cells #[.int .i64 t559, .int .i64 t560, .slice Ao24 t561.length co24] 24 (0, 0)) (by refine bkt ?_; refine blk_put (cs := #[.int .i64 t559, .int .i64 t560, .slice none 0 0]) ?_ 2 _ rfl; refine bkt ?_; refine blk_put (cs := #[.int .i64 t559, .int .i64 0, .slice none 0 0]) ?_ 1 _ rfl; refine bkt ?_; refine blk_put (cs := #[.int .i64 0, .int .i64 0, .slice none 0 0]) ?_ 0 _ rfl; refine bkt ?_; exact BK565.out) hb); have n4_ := Aside0.mk (below_step (hb2 HB GE556 GE565) hb); clear HO563; clear BK556; clear BK565; clear HB; have HO563 := n0_; have HO570 := n1_; have BK556 := n2_; have BK565 := n3_; have HB := n4_; clear n0_ n1_ n2_ n3_ n4_; (try clear hb); (try clear hb2); (try clear hk); (try clear hi); (try clear ho0)) | ((with_reducible refine gate_dst (N := 5) rfl ?_); refine box_event ?hg (N := 5) ?hd (cs := #[.int .i64 0, .int .i64 0, .slice none 0 0]) (t := 24) ?hr ?_; (case hd => rfl); (case hg => rfl); (case hr => first | (go_simp; done) | (go_simp; rfl)); intro gb572 hg w27 hbox hb; have n0_ := Aside0.mk (Kd.R_below (rkx HO563) hb); have n1_ := Aside0.mk (Kd.R_below (rkx HO570) hb); have n2_ := Aside0.mk (blk_below (bkx BK556) hb); have n3_ := Aside0.mk (blk_below (bkx BK565) hb); have n4_ := Aside0.mk (below_step (hb2 HB GE556 GE565) hb); have n5_ := Aside0.mk (hbox); have n6_ := Aside0.mk ((by rw [hg]; exact (below_size (hb2 HB GE556 GE565)) : w.heap.size ≤ gb572)); have n7_ := Aside0.mk ((by rw [hg]; exact (below_size (hb2 HB GE556 GE565)) : w.heap.size ≤ gb572)); have n8_ := Aside0.mk (nel hg BK556 : gb556 ≠ gb572); have n9_ := Aside0.mk (neg hg BK556 : gb572 ≠ gb556); have n10_ := Aside0.mk (nel hg BK565 : gb565 ≠ gb572); have n11_ := Aside0.mk (neg hg BK565 : gb572 ≠ gb565); clear HO563; clear HO570; clear BK556; clear BK565; clear HB; have HO563 := n0_; have HO570 := n1_; have BK556 := n2_; have BK565 := n3_; have HB := n4_; have BK572 := n5_; have GW572 := n6_; have GE572 := n7_; have NB556_572 := n8_; have NB572_556 := n9_; have NB565_572 := n10_; have NB572_565 := n11_; clear n0_ n1_ n2_ n3_ n4_ n5_ n6_ n7_ n8_ n9_ n10_ n11_; clear hb hbox hg; have hnb28 := NB572_556.out; have hnc28 := NB556_572.out; have hnb29 := NB572_565.out; have hnc29 := NB565_572.out; have hcz30_0 : w27.cell? ⟨gb572, 0, none⟩ = some (.int .i64 0) := (blk_cell BK572.out 0).trans rfl; have hcz30_1 : w27.cell? ⟨gb572, 1, none⟩ = some (.int .i64 0) := (blk_cell BK572.out 1).trans rfl; have hcz30_2 : w27.cell? ⟨gb572, 2, none⟩ = some (.slice none 0 0) := (blk_cell BK572.out 2).trans rfl; have hfz30_0 := blk_frozen BK572.out 0; have hfz30_1 := blk_frozen BK572.out 1; have hfz30_2 := blk_frozen BK572.out 2; obtain ⟨Ao31, co31, eo31⟩ := Kd.R_slice HO570.out; subst eo31; have hcz32_0 : w27.cell? ⟨gb556, 0, none⟩ = some (.int .i64 a0_0) := (blk_cell BK556.out 0).trans rfl; have hcz32_1 : w27.cell? ⟨gb556, 1, none⟩ = some (.int .i64 a0_1) := (blk_cell BK556.out 1).trans rfl; have hcz32_2 : w27.cell? ⟨gb556, 2, none⟩ = some (.slice A0_2 l0_2.length c0_2) := (blk_cell BK556.out 2).trans rfl; have hfz32_0 := blk_frozen BK556.out 0; have hfz32_1 := blk_frozen BK556.out 1; have hfz32_2 := blk_frozen BK556.out 2) | (go_at_call 24; (with_reducible refine (morphology_Erode.calls k a0_0 a0_1 _ _ l0_2 0 1 t573 t574 t575 t578 _ ?side1 ?side2 A6.out).mono ?_); (case side1 => exact Kd.C_below HR0_2.out (hb3 HB GE556 GE565 GE572)); (case side2 => exact HC0_2.out); rintro e w33 ⟨v576, rfl, ho0, hb⟩; have n0_ := Aside0.mk (Kd.R_elder' (by refine rkt ?_; exact (far3 HO563 BK572)) (Kd.R_base ho0) hb); have n1_ := Aside0.mk (Kd.R_elder' (by refine rkt ?_; exact (far3 HO570 BK572)) (Kd.R_base ho0) hb); have n2_ := Aside0.mk (Kd.R_lower (Kd.R_new' (Kd.R_new' ho0 (Kd.R_lt (by refine rkt ?_; exact (far3 HO563 BK572)))) (Kd.R_lt (by refine rkt ?_; exact (far3 HO570 BK572)))) (below_size (hb3 HB GE556 GE565 GE572))); have n3_ := Aside0.mk (blk_below (g := gb556) (o := .cells #[.int .i64 a0_0, .int .i64 a0_1, .slice A0_2 l0_2.length c0_2] 24 (0, 0)) (bky BK556 NB556_572) hb); have n4_ := Aside0.mk (blk_below (g := gb565) (o := .cells #[.int .i64 t559, .int .i64 t560, .slice Ao24 t561.length co24] 24 (0, 0)) (bky BK565 NB565_572) hb); have n5_ := Aside0.mk (blk_below (g := gb572) (o := .cells #[.int .i64 t566, .int .i64 t567, .slice Ao31 t568.length co31] 24 (0, 0)) (by refine bkt ?_; refine blk_put (cs := #[.int .i64 t566, .int .i64 t567, .slice none 0 0]) ?_ 2 _ rfl; refine bkt ?_; refine blk_put (cs := #[.int .i64 t566, .int .i64 0, .slice none 0 0]) ?_ 1 _ rfl; refine bkt ?_; refine blk_put (cs := #[.int .i64 0, .int .i64 0, .slice none 0 0]) ?_ 0 _ rfl; refine bkt ?_; exact BK572.out) hb); have n6_ := Aside0.mk (below_step (hb3 HB GE556 GE565 GE572) hb); clear HO563; clear HO570; clear BK556; clear BK565; clear BK572; clear HB; have HO563 := n0_; have HO570 := n1_; have HO577 := n2_; have BK556 := n3_; have BK565 := n4_; have BK572 := n5_; have HB := n6_; clear n0_ n1_ n2_ n3_ n4_ n5_ n6_; (try clear hb); (try clear hb2); (try clear hk); (try clear hi); (try clear ho0)) | ((with_reducible refine gate_dst (N := 7) rfl ?_); refine box_event ?hg (N := 7) ?hd (cs := #[.int .i64 0, .int .i64 0, .slice none 0 0]) (t := 24) ?hr ?_; (case hd => rfl); (case hg => rfl); (case hr => first | (go_simp; done) | (go_simp; rfl)); intro gb579 hg w34 hbox hb; have n0_ := Aside0.mk (Kd.R_below (rkx HO563) hb); have n1_ := Aside0.mk (Kd.R_below (rkx HO570) hb); have n2_ := Aside0.mk (Kd.R_below (rkx HO577) hb); have n3_ := Aside0.mk (blk_below (bkx BK556) hb); have n4_ := Aside0.mk (blk_below (bkx BK565) hb); have n5_ := Aside0.mk (blk_below (bkx BK572) hb); have n6_ := Aside0.mk (below_step (hb3 HB GE556 GE565 GE572) hb); have n7_ := Aside0.mk (hbox); have n8_ := Aside0.mk ((by rw [hg]; exact (below_size (hb3 HB GE556 GE565 GE572)) : w.heap.size ≤ gb579)); have n9_ := Aside0.mk ((by rw [hg]; exact (below_size (hb3 HB GE556 GE565 GE572)) : w.heap.size ≤ gb579)); have n10_ := Aside0.mk (nel hg BK556 : gb556 ≠ gb579); have n11_ := Aside0.mk (neg hg BK556 : gb579 ≠ gb556); have n12_ := Aside0.mk (nel hg BK565 : gb565 ≠ gb579); have n13_ := Aside0.mk (neg hg BK565 : gb579 ≠ gb565); have n14_ := Aside0.mk (nel hg BK572 : gb572 ≠ gb579); have n15_ := Aside0.mk (neg hg BK572 : gb579 ≠ gb572); clear HO563; clear HO570; clear HO577; clear BK556; clear BK565; clear BK572; clear HB; have HO563 := n0_; have HO570 := n1_; have HO577 := n2_; have BK556 := n3_; have BK565 := n4_; have BK572 := n5_; have HB := n6_; have BK579 := n7_; have GW579 := n8_; have GE579 := n9_; have NB556_579 := n10_; have NB579_556 := n11_; have NB565_579 := n12_; have NB579_565 := n13_; have NB572_579 := n14_; have NB579_572 := n15_; clear n0_ n1_ n2_ n3_ n4_ n5_ n6_ n7_ n8_ n9_ n10_ n11_ n12_ n13_ n14_ n15_; clear hb hbox hg; have hnb35 := NB579_556.out; have hnc35 := NB556_579.out; have hnb36 := NB579_565.out; have hnc36 := NB565_579.out; have hnb37 := NB579_572.out; have hnc37 := NB572_579.out; have hcz38_0 : w34.cell? ⟨gb579, 0, none⟩ = some (.int .i64 0) := (blk_cell BK579.out 0).trans rfl; have hcz38_1 : w34.cell? ⟨gb579, 1, none⟩ = some (.int .i64 0) := (blk_cell BK579.out 1).trans rfl; have hcz38_2 : w34.cell? ⟨gb579, 2, none⟩ = some (.slice none 0 0) := (blk_cell BK579.out 2).trans rfl; have hfz38_0 := blk_frozen BK579.out 0; have hfz38_1 := blk_frozen BK579.out 1; have hfz38_2 := blk_frozen BK579.out 2; obtain ⟨Ao39, co39, eo39⟩ := Kd.R_slice HO577.out; subst eo39; have hcz40_0 : w34.cell? ⟨gb565, 0, none⟩ = some (.int .i64 t559) := (blk_cell BK565.out 0).trans rfl; have hcz40_1 : w34.cell? ⟨gb565, 1, none⟩ = some (.int .i64 t560) := (blk_cell BK565.out 1).trans rfl; have hcz40_2 : w34.cell? ⟨gb565, 2, none⟩ = some (.slice Ao24 t561.length co24) := (blk_cell BK565.out 2).trans rfl; have hfz40_0 := blk_frozen BK565.out 0; have hfz40_1 := blk_frozen BK565.out 1; have hfz40_2 := blk_frozen BK565.out 2; have hcz41_0 : w34.cell? ⟨gb556, 0, none⟩ = some (.int .i64 a0_0) := (blk_cell BK556.out 0).trans rfl; have hcz41_1 : w34.cell? ⟨gb556, 1, none⟩ = some (.int .i64 a0_1) := (blk_cell BK556.out 1).trans rfl; have hcz41_2 : w34.cell? ⟨gb556, 2, none⟩ = some (.slice A0_2 l0_2.length c0_2) := (blk_cell BK556.out 2).trans rfl; have hfz41_0 := blk_frozen BK556.out 0; have hfz41_1 := blk_frozen BK556.out 1; have hfz41_2 := blk_frozen BK556.out 2) | (go_at_call 22; (with_reducible refine (barscanlaw37_within.calls k t559 t560 _ _ t561 a0_0 a0_1 _ _ l0_2 true _ ?side1 ?side2 ?side3 ?side4 A10.out).mono ?_); (case side1 => refine (Kd.R_reads' (e := 4) (base := w.heap.size) (ok := fun k_ => ((True ∧ some k_ ≠ (.slice Ao31 t568.length co31 : Value).ownBlock) ∧ some k_ ≠ (.slice Ao39 t575.length co39 : Value).ownBlock)) (n := t561.length) (c := co24) ?_).2.2; exact (by refine rkt ?_; exact (far3 HO563 BK579))); (case side2 => exact (Kd.R_reads' HO563.out).2.1); (case side3 => exact Kd.C_below HR0_2.out (hb4 HB GE556 GE565 GE572 GE579)); (case side4 => exact HC0_2.out); rintro e w42 ⟨rfl, hb⟩; have n0_ := Aside0.mk (Kd.R_below (by refine rkt ?_; exact (far3 HO563 BK579)) hb); have n1_ := Aside0.mk (Kd.R_below (by refine rkt ?_; exact (far3 HO570 BK579)) hb); have n2_ := Aside0.mk (Kd.R_below (by refine rkt ?_; exact (far3 HO577 BK579)) hb); have n3_ := Aside0.mk (blk_below (g := gb556) (o := .cells #[.int .i64 a0_0, .int .i64 a0_1, .slice A0_2 l0_2.length c0_2] 24 (0, 0)) (bky BK556 NB556_579) hb); have n4_ := Aside0.mk (blk_below (g := gb565) (o := .cells #[.int .i64 t559, .int .i64 t560, .slice Ao24 t561.length co24] 24 (0, 0)) (bky BK565 NB565_579) hb); have n5_ := Aside0.mk (blk_below (g := gb572) (o := .cells #[.int .i64 t566, .int .i64 t567, .slice Ao31 t568.length co31] 24 (0, 0)) (bky BK572 NB572_579) hb); have n6_ := Aside0.mk (blk_below (g := gb579) (o := .cells #[.int .i64 t573, .int .i64 t574, .slice Ao39 t575.length co39] 24 (0, 0)) (by refine bkt ?_; refine blk_put (cs := #[.int .i64 t573, .int .i64 t574, .slice none 0 0]) ?_ 2 _ rfl; refine bkt ?_; refine blk_put (cs := #[.int .i64 t573, .int .i64 0, .slice none 0 0]) ?_ 1 _ rfl; refine bkt ?_; refine blk_put (cs := #[.int .i64 0, .int .i64 0, .slice none 0 0]) ?_ 0 _ rfl; refine bkt ?_; exact BK579.out) hb); have n7_ := Aside0.mk (below_step (hb4 HB GE556 GE565 GE572 GE579) hb); clear HO563; clear HO570; clear HO577; clear BK556; clear BK565; clear BK572; clear BK579; clear HB; have HO563 := n0_; have HO570 := n1_; have HO577 := n2_; have BK556 := n3_; have BK565 := n4_; have BK572 := n5_; have BK579 := n6_; have HB := n7_; clear n0_ n1_ n2_ n3_ n4_ n5_ n6_ n7_; (try clear hb); (try clear hb2); (try clear hk); (try clear hi); have hcz43_0 : w42.cell? ⟨gb572, 0, none⟩ = some (.int .i64 t566) := (blk_cell BK572.out 0).trans rfl; have hcz43_1 : w42.cell? ⟨gb572, 1, none⟩ = some (.int .i64 t567) := (blk_cell BK572.out 1).trans rfl; have hcz43_2 : w42.cell? ⟨gb572, 2, none⟩ = some (.slice Ao31 t568.length co31) := (blk_cell BK572.out 2).trans rfl; have hfz43_0 := blk_frozen BK572.out 0; have hfz43_1 := blk_frozen BK572.out 1; have hfz43_2 := blk_frozen BK572.out 2; have hcz44_0 : w42.cell? ⟨gb556, 0, none⟩ = some (.int .i64 a0_0) := (blk_cell BK556.out 0).trans rfl; have hcz44_1 : w42.cell? ⟨gb556, 1, none⟩ = some (.int .i64 a0_1) := (blk_cell BK556.out 1).trans rfl; have hcz44_2 : w42.cell? ⟨gb556, 2, none⟩ = some (.slice A0_2 l0_2.length c0_2) := (blk_cell BK556.out 2).trans rfl; have hfz44_0 := blk_frozen BK556.out 0; have hfz44_1 := blk_frozen BK556.out 1; have hfz44_2 := blk_frozen BK556.out 2) | (go_at_call 22; (with_reducible refine (barscanlaw37_within.calls k t566 t567 _ _ t568 a0_0 a0_1 _ _ l0_2 true _ ?side1 ?side2 ?side3 ?side4 A12.out).mono ?_); (case side1 => repeat (first | exact (Kd.R_reads' HO570.out).2.2 | (with_reducible refine Kd.C_alloc ?_ _) | (with_reducible refine Kd.C_drewN ?_ _) | (with_reducible refine Kd.C_drew ?_))); (case side2 => exact (Kd.R_reads' HO570.out).2.1); (case side3 => repeat (first | exact (Kd.C_below HR0_2.out HB.out) | (with_reducible refine Kd.C_alloc ?_ _) | (with_reducible refine Kd.C_drewN ?_ _) | (with_reducible refine Kd.C_drew ?_))); (case side4 => exact HC0_2.out); rintro e w45 ⟨rfl, hb⟩; have n0_ := Aside0.mk (Kd.R_below (rkx HO563) hb); have n1_ := Aside0.mk (Kd.R_below (rkx HO570) hb); have n2_ := Aside0.mk (Kd.R_below (rkx HO577) hb); have n3_ := Aside0.mk (blk_below (bkx BK556) hb); have n4_ := Aside0.mk (blk_below (bkx BK565) hb); have n5_ := Aside0.mk (blk_below (bkx BK572) hb); have n6_ := Aside0.mk (blk_below (bkx BK579) hb); have n7_ := Aside0.mk (below_step (hb4 HB GE556 GE565 GE572 GE579) hb); clear HO563; clear HO570; clear HO577; clear BK556; clear BK565; clear BK572; clear BK579; clear HB; have HO563 := n0_; have HO570 := n1_; have HO577 := n2_; have BK556 := n3_; have BK565 := n4_; have BK572 := n5_; have BK579 := n6_; have HB := n7_; clear n0_ n1_ n2_ n3_ n4_ n5_ n6_ n7_; (try clear hb); (try clear hb2); (try clear hk); (try clear hi); have hcz46_0 : w45.cell? ⟨gb579, 0, none⟩ = some (.int .i64 t573) := (blk_cell BK579.out 0).trans rfl; have hcz46_1 : w45.cell? ⟨gb579, 1, none⟩ = some (.int .i64 t574) := (blk_cell BK579.out 1).trans rfl; have hcz46_2 : w45.cell? ⟨gb579, 2, none⟩ = some (.slice Ao39 t575.length co39) := (blk_cell BK579.out 2).trans rfl; have hfz46_0 := blk_frozen BK579.out 0; have hfz46_1 := blk_frozen BK579.out 1; have hfz46_2 := blk_frozen BK579.out 2; have hcz47_0 : w45.cell? ⟨gb556, 0, none⟩ = some (.int .i64 a0_0) := (blk_cell BK556.out 0).trans rfl; have hcz47_1 : w45.cell? ⟨gb556, 1, none⟩ = some (.int .i64 a0_1) := (blk_cell BK556.out 1).trans rfl; have hcz47_2 : w45.cell? ⟨gb556, 2, none⟩ = some (.slice A0_2 l0_2.length c0_2) := (blk_cell BK556.out 2).trans rfl; have hfz47_0 := blk_frozen BK556.out 0; have hfz47_1 := blk_frozen BK556.out 1; have hfz47_2 := blk_frozen BK556.out 2) | (go_at_call 22; (with_reducible refine (barscanlaw37_within.calls k t573 t574 _ _ t575 a0_0 a0_1 _ _ l0_2 true _ ?side1 ?side2 ?side3 ?side4 A14.out).mono ?_); (case side1 => repeat (first | exact (Kd.R_reads' HO577.out).2.2 | (with_reducible refine Kd.C_alloc ?_ _) | (with_reducible refine Kd.C_drewN ?_ _) | (with_reducible refine Kd.C_drew ?_))); (case side2 => exact (Kd.R_reads' HO577.out).2.1); (case side3 => repeat (first | exact (Kd.C_below HR0_2.out HB.out) | (with_reducible refine Kd.C_alloc ?_ _) | (with_reducible refine Kd.C_drewN ?_ _) | (with_reducible refine Kd.C_drew ?_))); (case side4 => exact HC0_2.out); rintro e w48 ⟨rfl, hb⟩; have n0_ := Aside0.mk (Kd.R_below (rkx HO563) hb); have n1_ := Aside0.mk (Kd.R_below (rkx HO570) hb); have n2_ := Aside0.mk (Kd.R_below (rkx HO577) hb); have n3_ := Aside0.mk (blk_below (bkx BK556) hb); have n4_ := Aside0.mk (blk_below (bkx BK565) hb); have n5_ := Aside0.mk (blk_below (bkx BK572) hb); have n6_ := Aside0.mk (blk_below (bkx BK579) hb); have n7_ := Aside0.mk (below_step (hb4 HB GE556 GE565 GE572 GE579) hb); clear HO563; clear HO570; clear HO577; clear BK556; clear BK565; clear BK572; clear BK579; clear HB; have HO563 := n0_; have HO570 := n1_; have HO577 := n2_; have BK556 := n3_; have BK565 := n4_; have BK572 := n5_; have BK579 := n6_; have HB := n7_; clear n0_ n1_ n2_ n3_ n4_ n5_ n6_ n7_; (try clear hb); (try clear hb2); (try clear hk); (try clear hi); have hcz49_0 : w48.cell? ⟨gb556, 0, none⟩ = some (.int .i64 a0_0) := (blk_cell BK556.out 0).trans rfl; have hcz49_1 : w48.cell? ⟨gb556, 1, none⟩ = some (.int .i64 a0_1) := (blk_cell BK556.out 1).trans rfl; have hcz49_2 : w48.cell? ⟨gb556, 2, none⟩ = some (.slice A0_2 l0_2.length c0_2) := (blk_cell BK556.out 2).trans rfl; have hfz49_0 := blk_frozen BK556.out 0; have hfz49_1 := blk_frozen BK556.out 1; have hfz49_2 := blk_frozen BK556.out 2)))
        go_loopg [61] k (fun kq v61 w' => ∃ (x61_1 : Int), v61 = .int .i64 x61_1 ∧ Aside0 (barscanlaw37_MorphologyOutline.l0 kq l0_2 (l0_2.length : Int) x61_1 t559 t560 t561 t566 t567 t568 t573 t574 t575 = some r) ∧ Aside0 (kq ≤ k) ∧ Aside0 (Kd.R Kd.bool 4 w' w.heap.size (fun k_ => some k_ ≠ ((.slice Ao31 t568.length co31) : Value).ownBlock ∧ some k_ ≠ ((.slice Ao39 t575.length co39) : Value).ownBlock) (.slice Ao24 t561.length co24) t561) ∧ Aside0 (Kd.R Kd.bool 4 w' w.heap.size (fun k_ => some k_ ≠ ((.slice Ao24 t561.length co24) : Value).ownBlock ∧ some k_ ≠ ((.slice Ao39 t575.length co39) : Value).ownBlock) (.slice Ao31 t568.length co31) t568) ∧ Aside0 (Kd.R Kd.bool 4 w' w.heap.size (fun k_ => some k_ ≠ ((.slice Ao24 t561.length co24) : Value).ownBlock ∧ some k_ ≠ ((.slice Ao31 t568.length co31) : Value).ownBlock) (.slice Ao39 t575.length co39) t575) ∧ Aside0 (w'.heap[gb556]? = some (.cells #[.int .i64 a0_0, .int .i64 a0_1, (.slice A0_2 l0_2.length c0_2)] 24 (0, 0))) ∧ Aside0 (w'.heap[gb565]? = some (.cells #[.int .i64 t559, .int .i64 t560, (.slice Ao24 t561.length co24)] 24 (0, 0))) ∧ Aside0 (w'.heap[gb572]? = some (.cells #[.int .i64 t566, .int .i64 t567, (.slice Ao31 t568.length co31)] 24 (0, 0))) ∧ Aside0 (w'.heap[gb579]? = some (.cells #[.int .i64 t573, .int .i64 t574, (.slice Ao39 t575.length co39)] 24 (0, 0))) ∧ Aside0 (Below w.heap.size w w'))
        case atStart => exact ⟨(0), (by first | rfl | (simp; done) | (simp [*]; done)), H', ⟨Nat.le_refl _⟩, ⟨by refine rkt ?_; exact Kd.R_mono HO563.out (fun _ hk => ⟨hk.1.2, hk.2⟩)⟩, ⟨by refine rkt ?_; exact Kd.R_mono HO570.out (fun _ hk => ⟨hk.1.2, hk.2⟩)⟩, ⟨by refine rkt ?_; exact Kd.R_mono HO577.out (fun _ hk => ⟨hk.1.2, hk.2⟩)⟩, ⟨bkx BK556⟩, ⟨bkx BK565⟩, ⟨bkx BK572⟩, ⟨bkx BK579⟩, ⟨hb4 HB GE556 GE565 GE572 GE579⟩⟩
        case round =>
         clear H'
         try clear c1
         try clear c2
         try clear p2
         try clear c3
         try clear c6
         try clear c7
         try clear c7b0
         try clear c7b1
         try clear c8
         try clear c8b0
         try clear c8b1
         try clear c9
         try clear c9b0
         try clear c9b1
         try clear c11
         try clear c13
         try clear c15
         try clear c22
         try clear c28
         try clear c29
         try clear c35
         try clear c36
         try clear c37
         try clear hcz17_0
         try clear hcz17_1
         try clear hcz17_2
         try clear hcz19_0
         try clear hcz19_1
         try clear hcz19_2
         try clear hcz23_0
         try clear hcz23_1
         try clear hcz23_2
         try clear hcz25_0
         try clear hcz25_1
         try clear hcz25_2
         try clear hcz30_0
         try clear hcz30_1
         try clear hcz30_2
         try clear hcz32_0
         try clear hcz32_1
         try clear hcz32_2
         try clear hcz38_0
         try clear hcz38_1
         try clear hcz38_2
         try clear hcz40_0
         try clear hcz40_1
         try clear hcz40_2
         try clear hcz41_0
         try clear hcz41_1
         try clear hcz41_2
         try clear hcz43_0
         try clear hcz43_1
         try clear hcz43_2
         try clear hcz44_0
         try clear hcz44_1
         try clear hcz44_2
         try clear hcz46_0
         try clear hcz46_1
         try clear hcz46_2
         try clear hcz47_0
         try clear hcz47_1
         try clear hcz47_2
         try clear hcz49_0
         try clear hcz49_1
         try clear hcz49_2
         try clear hfz17_0
         try clear hfz17_1
         try clear hfz17_2
         try clear hfz19_0
         try clear hfz19_1
         try clear hfz19_2
         try clear hfz23_0
         try clear hfz23_1
         try clear hfz23_2
         try clear hfz25_0
         try clear hfz25_1
         try clear hfz25_2
         try clear hfz30_0
         try clear hfz30_1
         try clear hfz30_2
         try clear hfz32_0
         try clear hfz32_1
         try clear hfz32_2
         try clear hfz38_0
         try clear hfz38_1
         try clear hfz38_2
         try clear hfz40_0
         try clear hfz40_1
         try clear hfz40_2
         try clear hfz41_0
         try clear hfz41_1
         try clear hfz41_2
         try clear hfz43_0
         try clear hfz43_1
         try clear hfz43_2
         try clear hfz44_0
         try clear hfz44_1
         try clear hfz44_2
         try clear hfz46_0
         try clear hfz46_1
         try clear hfz46_2
         try clear hfz47_0
         try clear hfz47_1
         try clear hfz47_2
         try clear hfz49_0
         try clear hfz49_1
         try clear hfz49_2
         obtain ⟨x61_1, rfl, HA, HK1, HO_566002, HO_573002, HO_580002, BK556, BK565, BK572, BK579, HB⟩ := hrel
         cases gk with
         | zero => exact absurd HA.out (by simp [barscanlaw37_MorphologyOutline.l0])
         | succ k1 =>
          have H := HA.out
          clear HA
          simp only [barscanlaw37_MorphologyOutline.l0] at H
          by_cases c50 : x61_1 < (l0_2.length : Int)
          ·rw [if_pos c50] at H
           have c50b0 : decide (x61_1 < (l0_2.length : Int)) = true := decide_eq_true c50
           clear c50
           by_cases c51 : 0 ≤ x61_1
           ·rw [if_pos c51] at H
            have c51b0 : decide (0 ≤ x61_1) = true := decide_eq_true c51
            clear c51
            by_cases c52 : x61_1 < (l0_2.length : Int)
            ·rw [if_pos c52] at H
             have c52b0 : decide (x61_1 < (l0_2.length : Int)) = true := decide_eq_true c52
             clear c52
             obtain ⟨bq53, hbq53⟩ : ∃ b_ : Bool, b_ = (rdOf false l0_2 x61_1) := ⟨_, rfl⟩
             replace H : (if bq53 = true then (if x61_1 < (t561.length : Int) then (if x61_1 < (t568.length : Int) then (if rdOf false t568 x61_1 = true then (if x61_1 < (t575.length : Int) then (if ((!(rdOf false t561 x61_1)) != (rdOf false t575 x61_1)) = true then (none) else (barscanlaw37_MorphologyOutline.l0 k1 l0_2 (l0_2.length : Int) (wrap64 (x61_1 + 1)) t559 t560 t561 t566 t567 t568 t573 t574 t575)) else (none)) else (if ((!(rdOf false t561 x61_1)) != false) = true then (none) else (barscanlaw37_MorphologyOutline.l0 k1 l0_2 (l0_2.length : Int) (wrap64 (x61_1 + 1)) t559 t560 t561 t566 t567 t568 t573 t574 t575))) else (none)) else (none)) else (if x61_1 < (t568.length : Int) then (if rdOf false t568 x61_1 = true then (if x61_1 < (t575.length : Int) then (if (false != (rdOf false t575 x61_1)) = true then (none) else (barscanlaw37_MorphologyOutline.l0 k1 l0_2 (l0_2.length : Int) (wrap64 (x61_1 + 1)) t559 t560 t561 t566 t567 t568 t573 t574 t575)) else (none)) else (if (false != false) = true then (none) else (barscanlaw37_MorphologyOutline.l0 k1 l0_2 (l0_2.length : Int) (wrap64 (x61_1 + 1)) t559 t560 t561 t566 t567 t568 t573 t574 t575))) else (none))) = some r := by rw [← hbq53] at H; exact H
             have Nbq53 := Aside0.mk hbq53
             clear hbq53
             by_cases c54 : bq53 = true
             ·subst c54
              have H1 : (if x61_1 < (t561.length : Int) then (if x61_1 < (t568.length : Int) then (if rdOf false t568 x61_1 = true then (if x61_1 < (t575.length : Int) then (if ((!(rdOf false t561 x61_1)) != (rdOf false t575 x61_1)) = true then (none) else (barscanlaw37_MorphologyOutline.l0 k1 l0_2 (l0_2.length : Int) (wrap64 (x61_1 + 1)) t559 t560 t561 t566 t567 t568 t573 t574 t575)) else (none)) else (if ((!(rdOf false t561 x61_1)) != false) = true then (none) else (barscanlaw37_MorphologyOutline.l0 k1 l0_2 (l0_2.length : Int) (wrap64 (x61_1 + 1)) t559 t560 t561 t566 t567 t568 t573 t574 t575))) else (none)) else (none)) = some r := by rw [if_pos rfl] at H; exact H
              clear H
              have H := H1
              clear H1
              by_cases c55 : x61_1 < (t561.length : Int)
              ·rw [if_pos c55] at H
               have c55b0 : decide (x61_1 < (t561.length : Int)) = true := decide_eq_true c55
               clear c55
               by_cases c56 : x61_1 < (t568.length : Int)
               ·rw [if_pos c56] at H
                have c56b0 : decide (x61_1 < (t568.length : Int)) = true := decide_eq_true c56
                clear c56
                obtain ⟨bq57, hbq57⟩ : ∃ b_ : Bool, b_ = (rdOf false t568 x61_1) := ⟨_, rfl⟩
                replace H : (if bq57 = true then (if x61_1 < (t575.length : Int) then (if ((!(rdOf false t561 x61_1)) != (rdOf false t575 x61_1)) = true then (none) else (barscanlaw37_MorphologyOutline.l0 k1 l0_2 (l0_2.length : Int) (wrap64 (x61_1 + 1)) t559 t560 t561 t566 t567 t568 t573 t574 t575)) else (none)) else (if ((!(rdOf false t561 x61_1)) != false) = true then (none) else (barscanlaw37_MorphologyOutline.l0 k1 l0_2 (l0_2.length : Int) (wrap64 (x61_1 + 1)) t559 t560 t561 t566 t567 t568 t573 t574 t575))) = some r := by rw [← hbq57] at H; exact H
                have Nbq57 := Aside0.mk hbq57
                clear hbq57
                by_cases c58 : bq57 = true
                ·subst c58
                 have H1 : (if x61_1 < (t575.length : Int) then (if ((!(rdOf false t561 x61_1)) != (rdOf false t575 x61_1)) = true then (none) else (barscanlaw37_MorphologyOutline.l0 k1 l0_2 (l0_2.length : Int) (wrap64 (x61_1 + 1)) t559 t560 t561 t566 t567 t568 t573 t574 t575)) else (none)) = some r := by rw [if_pos rfl] at H; exact H
                 clear H
                 have H := H1
                 clear H1
                 by_cases c59 : x61_1 < (t575.length : Int)
                 ·rw [if_pos c59] at H
                  have c59b0 : decide (x61_1 < (t575.length : Int)) = true := decide_eq_true c59
                  clear c59
                  by_cases c60 : ((!(rdOf false t561 x61_1)) != (rdOf false t575 x61_1)) = true
                  ·rw [if_pos c60] at H
                   exact absurd H (by simp)
                  ·rw [if_neg c60] at H
                   have c60b0 : ((!(rdOf false t561 x61_1)) != (rdOf false t575 x61_1)) = false := by simpa using c60
                   (try (have c60b9 := c60b0; unfold bne at c60b9))
                   (try (have c60b1 : decide ((!(rdOf false t561 x61_1)) = (rdOf false t575 x61_1)) = true := by simpa using c60))
                   (try (have c60b2 : ((!(rdOf false t561 x61_1)) == (rdOf false t575 x61_1)) = true := by simpa using c60))
                   clear c60
                   have H' := Aside0.mk H
                   clear H
                   have p583 : 0 ≤ (x61_1 : Int) := of_decide_eq_true (by first | (with_reducible assumption) | assumption)
                   have q583 : x61_1 < (l0_2.length : Int) := of_decide_eq_true (by first | (with_reducible assumption) | assumption)
                   obtain ⟨ad583, e583, hx583_0⟩ := Kd.at_bool HR0_2.out x61_1 p583 q583
                   (try rw [← Nbq53.out] at hx583_0)
                   (try rw [← Nbq57.out] at hx583_0)
                   cases e583
                   replace hx583_0 := (HB.out.cell (World.block_lt_of_cell? w _ hx583_0)).trans hx583_0
                   replace p583 := eq_true p583
                   replace q583 := eq_true q583
                   have hnb61 := NB565_556.out
                   have hnc61 := NB556_565.out
                   have hnb62 := NB565_572.out
                   have hnc62 := NB572_565.out
                   have hnb63 := NB565_579.out
                   have hnc63 := NB579_565.out
                   have hcz64_0 : wr.cell? ⟨gb565, 0, none⟩ = some (.int .i64 t559) := (blk_cell BK565.out 0).trans rfl
                   have hcz64_1 : wr.cell? ⟨gb565, 1, none⟩ = some (.int .i64 t560) := (blk_cell BK565.out 1).trans rfl
                   have hcz64_2 : wr.cell? ⟨gb565, 2, none⟩ = some (.slice Ao24 t561.length co24) := (blk_cell BK565.out 2).trans rfl
                   have hfz64_0 := blk_frozen BK565.out 0
                   have hfz64_1 := blk_frozen BK565.out 1
                   have hfz64_2 := blk_frozen BK565.out 2
                   have p584 : 0 ≤ (x61_1 : Int) := of_decide_eq_true (by first | (with_reducible assumption) | assumption)
                   have q584 : x61_1 < (t561.length : Int) := of_decide_eq_true (by first | (with_reducible assumption) | assumption)
                   obtain ⟨ad584, e584, hx584_0⟩ := Kd.at_bool (Kd.R_reads' HO_566002.out).2.2 x61_1 p584 q584
                   (try rw [← Nbq53.out] at hx584_0)
                   (try rw [← Nbq57.out] at hx584_0)
                   cases e584
                   replace p584 := eq_true p584
                   replace q584 := eq_true q584
                   have hnb65 := NB572_556.out
                   have hnc65 := NB556_572.out
                   have hnb66 := NB572_579.out
                   have hnc66 := NB579_572.out
                   have hcz67_0 : wr.cell? ⟨gb572, 0, none⟩ = some (.int .i64 t566) := (blk_cell BK572.out 0).trans rfl
                   have hcz67_1 : wr.cell? ⟨gb572, 1, none⟩ = some (.int .i64 t567) := (blk_cell BK572.out 1).trans rfl
                   have hcz67_2 : wr.cell? ⟨gb572, 2, none⟩ = some (.slice Ao31 t568.length co31) := (blk_cell BK572.out 2).trans rfl
                   have hfz67_0 := blk_frozen BK572.out 0
                   have hfz67_1 := blk_frozen BK572.out 1
                   have hfz67_2 := blk_frozen BK572.out 2
                   have p585 : 0 ≤ (x61_1 : Int) := of_decide_eq_true (by first | (with_reducible assumption) | assumption)
                   have q585 : x61_1 < (t568.length : Int) := of_decide_eq_true (by first | (with_reducible assumption) | assumption)
                   obtain ⟨ad585, e585, hx585_0⟩ := Kd.at_bool (Kd.R_reads' HO_573002.out).2.2 x61_1 p585 q585
                   (try rw [← Nbq53.out] at hx585_0)
                   (try rw [← Nbq57.out] at hx585_0)
                   cases e585
                   replace p585 := eq_true p585
                   replace q585 := eq_true q585
                   have hnb68 := NB579_556.out
                   have hnc68 := NB556_579.out
                   have hcz69_0 : wr.cell? ⟨gb579, 0, none⟩ = some (.int .i64 t573) := (blk_cell BK579.out 0).trans rfl
                   have hcz69_1 : wr.cell? ⟨gb579, 1, none⟩ = some (.int .i64 t574) := (blk_cell BK579.out 1).trans rfl
                   have hcz69_2 : wr.cell? ⟨gb579, 2, none⟩ = some (.slice Ao39 t575.length co39) := (blk_cell BK579.out 2).trans rfl
                   have hfz69_0 := blk_frozen BK579.out 0
                   have hfz69_1 := blk_frozen BK579.out 1
                   have hfz69_2 := blk_frozen BK579.out 2
                   have p586 : 0 ≤ (x61_1 : Int) := of_decide_eq_true (by first | (with_reducible assumption) | assumption)
                   have q586 : x61_1 < (t575.length : Int) := of_decide_eq_true (by first | (with_reducible assumption) | assumption)
                   obtain ⟨ad586, e586, hx586_0⟩ := Kd.at_bool (Kd.R_reads' HO_580002.out).2.2 x61_1 p586 q586
                   (try rw [← Nbq53.out] at hx586_0)
                   (try rw [← Nbq57.out] at hx586_0)
                   cases e586
                   replace p586 := eq_true p586
                   replace q586 := eq_true q586
                   go_wp2
                   repeat (go_quiet (fail); try go_wp2)
                   go_roundg k1
                   case measure => have := HK1.out; omega
                   case rel => exact ⟨(wrap64 (x61_1 + 1)), (by first | rfl | (simp; done) | (simp [*]; done)), H', ⟨by have := HK1.out; omega⟩, ⟨rkx HO_566002⟩, ⟨rkx HO_573002⟩, ⟨rkx HO_580002⟩, ⟨bkx BK556⟩, ⟨bkx BK565⟩, ⟨bkx BK572⟩, ⟨bkx BK579⟩, ⟨hb4 HB GE556 GE565 GE572 GE579⟩⟩
                 ·rw [if_neg c59] at H
                  exact absurd H (by simp)
                ·replace c58 := Bool.eq_false_iff.mpr c58
                 subst c58
                 have H1 : (if ((!(rdOf false t561 x61_1)) != false) = true then (none) else (barscanlaw37_MorphologyOutline.l0 k1 l0_2 (l0_2.length : Int) (wrap64 (x61_1 + 1)) t559 t560 t561 t566 t567 t568 t573 t574 t575)) = some r := by rw [if_neg (show ¬ (false = true) by decide)] at H; exact H
                 clear H
                 have H := H1
                 clear H1
                 by_cases c70 : ((!(rdOf false t561 x61_1)) != false) = true
                 ·rw [if_pos c70] at H
                  exact absurd H (by simp)
                 ·rw [if_neg c70] at H
                  have c70b0 : ((!(rdOf false t561 x61_1)) != false) = false := by simpa using c70
                  (try (have c70b9 := c70b0; unfold bne at c70b9))
                  (try (have c70b1 : decide ((!(rdOf false t561 x61_1)) = false) = true := by simpa using c70))
                  (try (have c70b2 : ((!(rdOf false t561 x61_1)) == false) = true := by simpa using c70))
                  clear c70
                  have H' := Aside0.mk H
                  clear H
                  have p583 : 0 ≤ (x61_1 : Int) := of_decide_eq_true (by first | (with_reducible assumption) | assumption)
                  have q583 : x61_1 < (l0_2.length : Int) := of_decide_eq_true (by first | (with_reducible assumption) | assumption)
                  obtain ⟨ad583, e583, hx583_0⟩ := Kd.at_bool HR0_2.out x61_1 p583 q583
                  (try rw [← Nbq53.out] at hx583_0)
                  (try rw [← Nbq57.out] at hx583_0)
                  cases e583
                  replace hx583_0 := (HB.out.cell (World.block_lt_of_cell? w _ hx583_0)).trans hx583_0
                  replace p583 := eq_true p583
                  replace q583 := eq_true q583
                  have hnb71 := NB565_556.out
                  have hnc71 := NB556_565.out
                  have hnb72 := NB565_572.out
                  have hnc72 := NB572_565.out
                  have hnb73 := NB565_579.out
                  have hnc73 := NB579_565.out
                  have hcz74_0 : wr.cell? ⟨gb565, 0, none⟩ = some (.int .i64 t559) := (blk_cell BK565.out 0).trans rfl
                  have hcz74_1 : wr.cell? ⟨gb565, 1, none⟩ = some (.int .i64 t560) := (blk_cell BK565.out 1).trans rfl
                  have hcz74_2 : wr.cell? ⟨gb565, 2, none⟩ = some (.slice Ao24 t561.length co24) := (blk_cell BK565.out 2).trans rfl
                  have hfz74_0 := blk_frozen BK565.out 0
                  have hfz74_1 := blk_frozen BK565.out 1
                  have hfz74_2 := blk_frozen BK565.out 2
                  have p584 : 0 ≤ (x61_1 : Int) := of_decide_eq_true (by first | (with_reducible assumption) | assumption)
                  have q584 : x61_1 < (t561.length : Int) := of_decide_eq_true (by first | (with_reducible assumption) | assumption)
                  obtain ⟨ad584, e584, hx584_0⟩ := Kd.at_bool (Kd.R_reads' HO_566002.out).2.2 x61_1 p584 q584
                  (try rw [← Nbq53.out] at hx584_0)
                  (try rw [← Nbq57.out] at hx584_0)
                  cases e584
                  replace p584 := eq_true p584
                  replace q584 := eq_true q584
                  have hnb75 := NB572_556.out
                  have hnc75 := NB556_572.out
                  have hnb76 := NB572_579.out
                  have hnc76 := NB579_572.out
                  have hcz77_0 : wr.cell? ⟨gb572, 0, none⟩ = some (.int .i64 t566) := (blk_cell BK572.out 0).trans rfl
                  have hcz77_1 : wr.cell? ⟨gb572, 1, none⟩ = some (.int .i64 t567) := (blk_cell BK572.out 1).trans rfl
                  have hcz77_2 : wr.cell? ⟨gb572, 2, none⟩ = some (.slice Ao31 t568.length co31) := (blk_cell BK572.out 2).trans rfl
                  have hfz77_0 := blk_frozen BK572.out 0
                  have hfz77_1 := blk_frozen BK572.out 1
                  have hfz77_2 := blk_frozen BK572.out 2
                  have p585 : 0 ≤ (x61_1 : Int) := of_decide_eq_true (by first | (with_reducible assumption) | assumption)
                  have q585 : x61_1 < (t568.length : Int) := of_decide_eq_true (by first | (with_reducible assumption) | assumption)
                  obtain ⟨ad585, e585, hx585_0⟩ := Kd.at_bool (Kd.R_reads' HO_573002.out).2.2 x61_1 p585 q585
                  (try rw [← Nbq53.out] at hx585_0)
                  (try rw [← Nbq57.out] at hx585_0)
                  cases e585
                  replace p585 := eq_true p585
                  replace q585 := eq_true q585
                  go_wp2
                  repeat (go_quiet (fail); try go_wp2)
                  go_roundg k1
                  case measure => have := HK1.out; omega
                  case rel => exact ⟨(wrap64 (x61_1 + 1)), (by first | rfl | (simp; done) | (simp [*]; done)), H', ⟨by have := HK1.out; omega⟩, ⟨rkx HO_566002⟩, ⟨rkx HO_573002⟩, ⟨rkx HO_580002⟩, ⟨bkx BK556⟩, ⟨bkx BK565⟩, ⟨bkx BK572⟩, ⟨bkx BK579⟩, ⟨hb4 HB GE556 GE565 GE572 GE579⟩⟩
               ·rw [if_neg c56] at H
                exact absurd H (by simp)
              ·rw [if_neg c55] at H
               exact absurd H (by simp)
             ·replace c54 := Bool.eq_false_iff.mpr c54
              subst c54
              have H1 : (if x61_1 < (t568.length : Int) then (if rdOf false t568 x61_1 = true then (if x61_1 < (t575.length : Int) then (if (false != (rdOf false t575 x61_1)) = true then (none) else (barscanlaw37_MorphologyOutline.l0 k1 l0_2 (l0_2.length : Int) (wrap64 (x61_1 + 1)) t559 t560 t561 t566 t567 t568 t573 t574 t575)) else (none)) else (if (false != false) = true then (none) else (barscanlaw37_MorphologyOutline.l0 k1 l0_2 (l0_2.length : Int) (wrap64 (x61_1 + 1)) t559 t560 t561 t566 t567 t568 t573 t574 t575))) else (none)) = some r := by rw [if_neg (show ¬ (false = true) by decide)] at H; exact H
              clear H
              have H := H1
              clear H1
              by_cases c78 : x61_1 < (t568.length : Int)
              ·rw [if_pos c78] at H
               have c78b0 : decide (x61_1 < (t568.length : Int)) = true := decide_eq_true c78
               clear c78
               obtain ⟨bq79, hbq79⟩ : ∃ b_ : Bool, b_ = (rdOf false t568 x61_1) := ⟨_, rfl⟩
               replace H : (if bq79 = true then (if x61_1 < (t575.length : Int) then (if (false != (rdOf false t575 x61_1)) = true then (none) else (barscanlaw37_MorphologyOutline.l0 k1 l0_2 (l0_2.length : Int) (wrap64 (x61_1 + 1)) t559 t560 t561 t566 t567 t568 t573 t574 t575)) else (none)) else (if (false != false) = true then (none) else (barscanlaw37_MorphologyOutline.l0 k1 l0_2 (l0_2.length : Int) (wrap64 (x61_1 + 1)) t559 t560 t561 t566 t567 t568 t573 t574 t575))) = some r := by rw [← hbq79] at H; exact H
               have Nbq79 := Aside0.mk hbq79
               clear hbq79
               by_cases c80 : bq79 = true
               ·subst c80
                have H1 : (if x61_1 < (t575.length : Int) then (if (false != (rdOf false t575 x61_1)) = true then (none) else (barscanlaw37_MorphologyOutline.l0 k1 l0_2 (l0_2.length : Int) (wrap64 (x61_1 + 1)) t559 t560 t561 t566 t567 t568 t573 t574 t575)) else (none)) = some r := by rw [if_pos rfl] at H; exact H
                clear H
                have H := H1
                clear H1
                by_cases c81 : x61_1 < (t575.length : Int)
                ·rw [if_pos c81] at H
                 have c81b0 : decide (x61_1 < (t575.length : Int)) = true := decide_eq_true c81
                 clear c81
                 by_cases c82 : (false != (rdOf false t575 x61_1)) = true
                 ·rw [if_pos c82] at H
                  exact absurd H (by simp)
                 ·rw [if_neg c82] at H
                  have c82b0 : (false != (rdOf false t575 x61_1)) = false := by simpa using c82
                  (try (have c82b9 := c82b0; unfold bne at c82b9))
                  (try (have c82b1 : decide (false = (rdOf false t575 x61_1)) = true := by simpa using c82))
                  (try (have c82b2 : (false == (rdOf false t575 x61_1)) = true := by simpa using c82))
                  clear c82
                  have H' := Aside0.mk H
                  clear H
                  have p583 : 0 ≤ (x61_1 : Int) := of_decide_eq_true (by first | (with_reducible assumption) | assumption)
                  have q583 : x61_1 < (l0_2.length : Int) := of_decide_eq_true (by first | (with_reducible assumption) | assumption)
                  obtain ⟨ad583, e583, hx583_0⟩ := Kd.at_bool HR0_2.out x61_1 p583 q583
                  (try rw [← Nbq53.out] at hx583_0)
                  (try rw [← Nbq79.out] at hx583_0)
                  cases e583
                  replace hx583_0 := (HB.out.cell (World.block_lt_of_cell? w _ hx583_0)).trans hx583_0
                  replace p583 := eq_true p583
                  replace q583 := eq_true q583
                  have hnb83 := NB572_556.out
                  have hnc83 := NB556_572.out
                  have hnb84 := NB572_565.out
                  have hnc84 := NB565_572.out
                  have hnb85 := NB572_579.out
                  have hnc85 := NB579_572.out
                  have hcz86_0 : wr.cell? ⟨gb572, 0, none⟩ = some (.int .i64 t566) := (blk_cell BK572.out 0).trans rfl
                  have hcz86_1 : wr.cell? ⟨gb572, 1, none⟩ = some (.int .i64 t567) := (blk_cell BK572.out 1).trans rfl
                  have hcz86_2 : wr.cell? ⟨gb572, 2, none⟩ = some (.slice Ao31 t568.length co31) := (blk_cell BK572.out 2).trans rfl
                  have hfz86_0 := blk_frozen BK572.out 0
                  have hfz86_1 := blk_frozen BK572.out 1
                  have hfz86_2 := blk_frozen BK572.out 2
                  have p587 : 0 ≤ (x61_1 : Int) := of_decide_eq_true (by first | (with_reducible assumption) | assumption)
                  have q587 : x61_1 < (t568.length : Int) := of_decide_eq_true (by first | (with_reducible assumption) | assumption)
                  obtain ⟨ad587, e587, hx587_0⟩ := Kd.at_bool (Kd.R_reads' HO_573002.out).2.2 x61_1 p587 q587
                  (try rw [← Nbq53.out] at hx587_0)
                  (try rw [← Nbq79.out] at hx587_0)
                  cases e587
                  replace p587 := eq_true p587
                  replace q587 := eq_true q587
                  have hnb87 := NB579_556.out
                  have hnc87 := NB556_579.out
                  have hnb88 := NB579_565.out
                  have hnc88 := NB565_579.out
                  have hcz89_0 : wr.cell? ⟨gb579, 0, none⟩ = some (.int .i64 t573) := (blk_cell BK579.out 0).trans rfl
                  have hcz89_1 : wr.cell? ⟨gb579, 1, none⟩ = some (.int .i64 t574) := (blk_cell BK579.out 1).trans rfl
                  have hcz89_2 : wr.cell? ⟨gb579, 2, none⟩ = some (.slice Ao39 t575.length co39) := (blk_cell BK579.out 2).trans rfl
                  have hfz89_0 := blk_frozen BK579.out 0
                  have hfz89_1 := blk_frozen BK579.out 1
                  have hfz89_2 := blk_frozen BK579.out 2
                  have p588 : 0 ≤ (x61_1 : Int) := of_decide_eq_true (by first | (with_reducible assumption) | assumption)
                  have q588 : x61_1 < (t575.length : Int) := of_decide_eq_true (by first | (with_reducible assumption) | assumption)
                  obtain ⟨ad588, e588, hx588_0⟩ := Kd.at_bool (Kd.R_reads' HO_580002.out).2.2 x61_1 p588 q588
                  (try rw [← Nbq53.out] at hx588_0)
                  (try rw [← Nbq79.out] at hx588_0)
                  cases e588
                  replace p588 := eq_true p588
                  replace q588 := eq_true q588
                  go_wp2
                  repeat (go_quiet (fail); try go_wp2)
                  go_roundg k1
                  case measure => have := HK1.out; omega
                  case rel => exact ⟨(wrap64 (x61_1 + 1)), (by first | rfl | (simp; done) | (simp [*]; done)), H', ⟨by have := HK1.out; omega⟩, ⟨rkx HO_566002⟩, ⟨rkx HO_573002⟩, ⟨rkx HO_580002⟩, ⟨bkx BK556⟩, ⟨bkx BK565⟩, ⟨bkx BK572⟩, ⟨bkx BK579⟩, ⟨hb4 HB GE556 GE565 GE572 GE579⟩⟩
                ·rw [if_neg c81] at H
                 exact absurd H (by simp)
               ·replace c80 := Bool.eq_false_iff.mpr c80
                subst c80
                have H1 : (if (false != false) = true then (none) else (barscanlaw37_MorphologyOutline.l0 k1 l0_2 (l0_2.length : Int) (wrap64 (x61_1 + 1)) t559 t560 t561 t566 t567 t568 t573 t574 t575)) = some r := by rw [if_neg (show ¬ (false = true) by decide)] at H; exact H
                clear H
                have H := H1
                clear H1
                by_cases c90 : (false != false) = true
                ·rw [if_pos c90] at H
                 exact absurd H (by simp)
                ·rw [if_neg c90] at H
                 have c90b0 : (false != false) = false := by simp
                 (try (have c90b9 := c90b0; unfold bne at c90b9))
                 (try (have c90b1 : decide (false = false) = true := by simp))
                 (try (have c90b2 : (false == false) = true := by simp))
                 clear c90
                 have H' := Aside0.mk H
                 clear H
                 have p583 : 0 ≤ (x61_1 : Int) := of_decide_eq_true (by first | (with_reducible assumption) | assumption)
                 have q583 : x61_1 < (l0_2.length : Int) := of_decide_eq_true (by first | (with_reducible assumption) | assumption)
                 obtain ⟨ad583, e583, hx583_0⟩ := Kd.at_bool HR0_2.out x61_1 p583 q583
                 (try rw [← Nbq53.out] at hx583_0)
                 (try rw [← Nbq79.out] at hx583_0)
                 cases e583
                 replace hx583_0 := (HB.out.cell (World.block_lt_of_cell? w _ hx583_0)).trans hx583_0
                 replace p583 := eq_true p583
                 replace q583 := eq_true q583
                 have hnb91 := NB572_556.out
                 have hnc91 := NB556_572.out
                 have hnb92 := NB572_565.out
                 have hnc92 := NB565_572.out
                 have hnb93 := NB572_579.out
                 have hnc93 := NB579_572.out
                 have hcz94_0 : wr.cell? ⟨gb572, 0, none⟩ = some (.int .i64 t566) := (blk_cell BK572.out 0).trans rfl
                 have hcz94_1 : wr.cell? ⟨gb572, 1, none⟩ = some (.int .i64 t567) := (blk_cell BK572.out 1).trans rfl
                 have hcz94_2 : wr.cell? ⟨gb572, 2, none⟩ = some (.slice Ao31 t568.length co31) := (blk_cell BK572.out 2).trans rfl
                 have hfz94_0 := blk_frozen BK572.out 0
                 have hfz94_1 := blk_frozen BK572.out 1
                 have hfz94_2 := blk_frozen BK572.out 2
                 have p587 : 0 ≤ (x61_1 : Int) := of_decide_eq_true (by first | (with_reducible assumption) | assumption)
                 have q587 : x61_1 < (t568.length : Int) := of_decide_eq_true (by first | (with_reducible assumption) | assumption)
                 obtain ⟨ad587, e587, hx587_0⟩ := Kd.at_bool (Kd.R_reads' HO_573002.out).2.2 x61_1 p587 q587
                 (try rw [← Nbq53.out] at hx587_0)
                 (try rw [← Nbq79.out] at hx587_0)
                 cases e587
                 replace p587 := eq_true p587
                 replace q587 := eq_true q587
                 go_wp2
                 repeat (go_quiet (fail); try go_wp2)
                 go_roundg k1
                 case measure => have := HK1.out; omega
                 case rel => exact ⟨(wrap64 (x61_1 + 1)), (by first | rfl | (simp; done) | (simp [*]; done)), H', ⟨by have := HK1.out; omega⟩, ⟨rkx HO_566002⟩, ⟨rkx HO_573002⟩, ⟨rkx HO_580002⟩, ⟨bkx BK556⟩, ⟨bkx BK565⟩, ⟨bkx BK572⟩, ⟨bkx BK579⟩, ⟨hb4 HB GE556 GE565 GE572 GE579⟩⟩
              ·rw [if_neg c78] at H
               exact absurd H (by simp)
            ·rw [if_neg c52] at H
             exact absurd H (by simp)
           ·rw [if_neg c51] at H
            exact absurd H (by simp)
          ·rw [if_neg c50] at H
           have c50b0 : decide (x61_1 < (l0_2.length : Int)) = false := decide_eq_false c50
           clear c50
           replace H := Option.bind_eq_some_iff.mp H
           obtain ⟨t589, A950, H⟩ := H
           replace H : (some t589) = some r := H
           have A95 := Aside0.mk A950
           clear A950
           obtain rfl := Option.some.inj H
           go_wp2_with (first | (go_at_call 12; (with_reducible refine (barscanlaw37_examples.calls k1  t589 _ A95.out).mono ?_); rintro e w96 ⟨rfl, hb⟩; have n0_ := Aside0.mk (Kd.R_below (rkx HO_566002) hb); have n1_ := Aside0.mk (Kd.R_below (rkx HO_573002) hb); have n2_ := Aside0.mk (Kd.R_below (rkx HO_580002) hb); have n3_ := Aside0.mk (blk_below (bkx BK556) hb); have n4_ := Aside0.mk (blk_below (bkx BK565) hb); have n5_ := Aside0.mk (blk_below (bkx BK572) hb); have n6_ := Aside0.mk (blk_below (bkx BK579) hb); have n7_ := Aside0.mk (below_step (hb4 HB GE556 GE565 GE572 GE579) hb); clear HO_566002; clear HO_573002; clear HO_580002; clear BK556; clear BK565; clear BK572; clear BK579; clear HB; have HO_566002 := n0_; have HO_573002 := n1_; have HO_580002 := n2_; have BK556 := n3_; have BK565 := n4_; have BK572 := n5_; have BK579 := n6_; have HB := n7_; clear n0_ n1_ n2_ n3_ n4_ n5_ n6_ n7_; (try clear hb); (try clear hb2); (try clear hk); (try clear hi)))
           repeat (go_quiet (first | (go_at_call 12; (with_reducible refine (barscanlaw37_examples.calls k1  t589 _ A95.out).mono ?_); rintro e w96 ⟨rfl, hb⟩; have n0_ := Aside0.mk (Kd.R_below (rkx HO_566002) hb); have n1_ := Aside0.mk (Kd.R_below (rkx HO_573002) hb); have n2_ := Aside0.mk (Kd.R_below (rkx HO_580002) hb); have n3_ := Aside0.mk (blk_below (bkx BK556) hb); have n4_ := Aside0.mk (blk_below (bkx BK565) hb); have n5_ := Aside0.mk (blk_below (bkx BK572) hb); have n6_ := Aside0.mk (blk_below (bkx BK579) hb); have n7_ := Aside0.mk (below_step (hb4 HB GE556 GE565 GE572 GE579) hb); clear HO_566002; clear HO_573002; clear HO_580002; clear BK556; clear BK565; clear BK572; clear BK579; clear HB; have HO_566002 := n0_; have HO_573002 := n1_; have HO_580002 := n2_; have BK556 := n3_; have BK565 := n4_; have BK572 := n5_; have BK579 := n6_; have HB := n7_; clear n0_ n1_ n2_ n3_ n4_ n5_ n6_ n7_; (try clear hb); (try clear hb2); (try clear hk); (try clear hi))); try go_wp2_with (first | (go_at_call 12; (with_reducible refine (barscanlaw37_examples.calls k1  t589 _ A95.out).mono ?_); rintro e w96 ⟨rfl, hb⟩; have n0_ := Aside0.mk (Kd.R_below (rkx HO_566002) hb); have n1_ := Aside0.mk (Kd.R_below (rkx HO_573002) hb); have n2_ := Aside0.mk (Kd.R_below (rkx HO_580002) hb); have n3_ := Aside0.mk (blk_below (bkx BK556) hb); have n4_ := Aside0.mk (blk_below (bkx BK565) hb); have n5_ := Aside0.mk (blk_below (bkx BK572) hb); have n6_ := Aside0.mk (blk_below (bkx BK579) hb); have n7_ := Aside0.mk (below_step (hb4 HB GE556 GE565 GE572 GE579) hb); clear HO_566002; clear HO_573002; clear HO_580002; clear BK556; clear BK565; clear BK572; clear BK579; clear HB; have HO_566002 := n0_; have HO_573002 := n1_; have HO_580002 := n2_; have BK556 := n3_; have BK565 := n4_; have BK572 := n5_; have BK579 := n6_; have HB := n7_; clear n0_ n1_ n2_ n3_ n4_ n5_ n6_ n7_; (try clear hb); (try clear hb2); (try clear hk); (try clear hi))))
           go_ret
           exact ⟨by first | rfl | (simp [errW_none, errW_some] <;> rfl) | (simp [*, errW_none, errW_some] <;> rfl), by repeat (first | (with_reducible first | exact HB.out | apply below_alloc | apply pw_below_drewN | apply below_drew1 | refine below_set ?_ GE556.out | refine below_set ?_ GE565.out | refine below_set ?_ GE572.out | refine below_set ?_ GE579.out) | exact HB.out)⟩
       ·replace c15 := Bool.eq_false_iff.mpr c15
        subst c15
        have H1 : (none) = some r := by rw [if_neg (show ¬ (false = true) by decide)] at H; exact H
        clear H
        have H := H1
        clear H1
        exact absurd H (by simp)
      ·replace c13 := Bool.eq_false_iff.mpr c13
       subst c13
       have H1 : (none) = some r := by rw [if_neg (show ¬ (false = true) by decide)] at H; exact H
       clear H
       have H := H1
       clear H1
       exact absurd H (by simp)
     ·replace c11 := Bool.eq_false_iff.mpr c11
      subst c11
      have H1 : (none) = some r := by rw [if_neg (show ¬ (false = true) by decide)] at H; exact H
      clear H
      have H := H1
      clear H1
      exact absurd H (by simp)
    ·rw [if_neg c9] at H
     exact absurd H (by simp)
   ·rw [if_neg c8] at H
    exact absurd H (by simp)
  ·rw [if_neg c7] at H
   exact absurd H (by simp)
 ·replace c3 := Bool.eq_false_iff.mpr c3
  subst c3
  have H1 : ((barscanlaw37_examples.f k).bind fun t558 => (some t558)) = some r := by rw [if_neg (show ¬ (false = true) by decide)] at H; exact H
  clear H
  have H := H1
  clear H1
  replace H := Option.bind_eq_some_iff.mp H
  obtain ⟨t558, A970, H⟩ := H
  replace H : (some t558) = some r := H
  have A97 := Aside0.mk A970
  clear A970
  obtain rfl := Option.some.inj H
  go_enter Try.func6, Try.ntmps6
  go_wp2_with (first | ((with_reducible refine gate_dst (N := 1) rfl ?_); refine box_event ?hg (N := 1) ?hd (cs := #[.int .i64 a0_0, .int .i64 a0_1, .slice A0_2 l0_2.length c0_2]) (t := 24) ?hr ?_; (case hd => rfl); (case hg => rfl); (case hr => first | (go_simp; done) | (go_simp; rfl)); intro gb556 hg w98 hbox hb; have n0_ := Aside0.mk (below_step (hb0 HB) hb); have n1_ := Aside0.mk (hbox); have n2_ := Aside0.mk ((by rw [hg]; exact (below_size (hb0 HB)) : w.heap.size ≤ gb556)); have n3_ := Aside0.mk ((by rw [hg]; exact (below_size (hb0 HB)) : w.heap.size ≤ gb556)); clear HB; have HB := n0_; have BK556 := n1_; have GW556 := n2_; have GE556 := n3_; clear n0_ n1_ n2_ n3_; clear hb hbox hg; have hcz99_0 : w98.cell? ⟨gb556, 0, none⟩ = some (.int .i64 a0_0) := (blk_cell BK556.out 0).trans rfl; have hcz99_1 : w98.cell? ⟨gb556, 1, none⟩ = some (.int .i64 a0_1) := (blk_cell BK556.out 1).trans rfl; have hcz99_2 : w98.cell? ⟨gb556, 2, none⟩ = some (.slice A0_2 l0_2.length c0_2) := (blk_cell BK556.out 2).trans rfl; have hfz99_0 := blk_frozen BK556.out 0; have hfz99_1 := blk_frozen BK556.out 1; have hfz99_2 := blk_frozen BK556.out 2) | (go_at_call 23; (with_reducible refine (barscanlaw37_valid.calls a0_0 a0_1 _ _ l0_2 false _ ?side1 ?side2 A2.out).mono ?_); (case side1 => repeat (first | exact (Kd.C_below HR0_2.out HB.out) | (with_reducible refine Kd.C_alloc ?_ _) | (with_reducible refine Kd.C_drewN ?_ _) | (with_reducible refine Kd.C_drew ?_))); (case side2 => exact HC0_2.out); rintro e w100 ⟨rfl, hb⟩; have n0_ := Aside0.mk (blk_below (bkx BK556) hb); have n1_ := Aside0.mk (below_step (hb1 HB GE556) hb); clear BK556; clear HB; have BK556 := n0_; have HB := n1_; clear n0_ n1_; (try clear hb); (try clear hb2); (try clear hk); (try clear hi)) | (go_at_call 12; (with_reducible refine (barscanlaw37_examples.calls k  t558 _ A97.out).mono ?_); rintro e w101 ⟨rfl, hb⟩; have n0_ := Aside0.mk (blk_below (bkx BK556) hb); have n1_ := Aside0.mk (below_step (hb1 HB GE556) hb); clear BK556; clear HB; have BK556 := n0_; have HB := n1_; clear n0_ n1_; (try clear hb); (try clear hb2); (try clear hk); (try clear hi)))
  repeat (go_quiet (first | ((with_reducible refine gate_dst (N := 1) rfl ?_); refine box_event ?hg (N := 1) ?hd (cs := #[.int .i64 a0_0, .int .i64 a0_1, .slice A0_2 l0_2.length c0_2]) (t := 24) ?hr ?_; (case hd => rfl); (case hg => rfl); (case hr => first | (go_simp; done) | (go_simp; rfl)); intro gb556 hg w98 hbox hb; have n0_ := Aside0.mk (below_step (hb0 HB) hb); have n1_ := Aside0.mk (hbox); have n2_ := Aside0.mk ((by rw [hg]; exact (below_size (hb0 HB)) : w.heap.size ≤ gb556)); have n3_ := Aside0.mk ((by rw [hg]; exact (below_size (hb0 HB)) : w.heap.size ≤ gb556)); clear HB; have HB := n0_; have BK556 := n1_; have GW556 := n2_; have GE556 := n3_; clear n0_ n1_ n2_ n3_; clear hb hbox hg; have hcz99_0 : w98.cell? ⟨gb556, 0, none⟩ = some (.int .i64 a0_0) := (blk_cell BK556.out 0).trans rfl; have hcz99_1 : w98.cell? ⟨gb556, 1, none⟩ = some (.int .i64 a0_1) := (blk_cell BK556.out 1).trans rfl; have hcz99_2 : w98.cell? ⟨gb556, 2, none⟩ = some (.slice A0_2 l0_2.length c0_2) := (blk_cell BK556.out 2).trans rfl; have hfz99_0 := blk_frozen BK556.out 0; have hfz99_1 := blk_frozen BK556.out 1; have hfz99_2 := blk_frozen BK556.out 2) | (go_at_call 23; (with_reducible refine (barscanlaw37_valid.calls a0_0 a0_1 _ _ l0_2 false _ ?side1 ?side2 A2.out).mono ?_); (case side1 => repeat (first | exact (Kd.C_below HR0_2.out HB.out) | (with_reducible refine Kd.C_alloc ?_ _) | (with_reducible refine Kd.C_drewN ?_ _) | (with_reducible refine Kd.C_drew ?_))); (case side2 => exact HC0_2.out); rintro e w100 ⟨rfl, hb⟩; have n0_ := Aside0.mk (blk_below (bkx BK556) hb); have n1_ := Aside0.mk (below_step (hb1 HB GE556) hb); clear BK556; clear HB; have BK556 := n0_; have HB := n1_; clear n0_ n1_; (try clear hb); (try clear hb2); (try clear hk); (try clear hi)) | (go_at_call 12; (with_reducible refine (barscanlaw37_examples.calls k  t558 _ A97.out).mono ?_); rintro e w101 ⟨rfl, hb⟩; have n0_ := Aside0.mk (blk_below (bkx BK556) hb); have n1_ := Aside0.mk (below_step (hb1 HB GE556) hb); clear BK556; clear HB; have BK556 := n0_; have HB := n1_; clear n0_ n1_; (try clear hb); (try clear hb2); (try clear hk); (try clear hi))); try go_wp2_with (first | ((with_reducible refine gate_dst (N := 1) rfl ?_); refine box_event ?hg (N := 1) ?hd (cs := #[.int .i64 a0_0, .int .i64 a0_1, .slice A0_2 l0_2.length c0_2]) (t := 24) ?hr ?_; (case hd => rfl); (case hg => rfl); (case hr => first | (go_simp; done) | (go_simp; rfl)); intro gb556 hg w98 hbox hb; have n0_ := Aside0.mk (below_step (hb0 HB) hb); have n1_ := Aside0.mk (hbox); have n2_ := Aside0.mk ((by rw [hg]; exact (below_size (hb0 HB)) : w.heap.size ≤ gb556)); have n3_ := Aside0.mk ((by rw [hg]; exact (below_size (hb0 HB)) : w.heap.size ≤ gb556)); clear HB; have HB := n0_; have BK556 := n1_; have GW556 := n2_; have GE556 := n3_; clear n0_ n1_ n2_ n3_; clear hb hbox hg; have hcz99_0 : w98.cell? ⟨gb556, 0, none⟩ = some (.int .i64 a0_0) := (blk_cell BK556.out 0).trans rfl; have hcz99_1 : w98.cell? ⟨gb556, 1, none⟩ = some (.int .i64 a0_1) := (blk_cell BK556.out 1).trans rfl; have hcz99_2 : w98.cell? ⟨gb556, 2, none⟩ = some (.slice A0_2 l0_2.length c0_2) := (blk_cell BK556.out 2).trans rfl; have hfz99_0 := blk_frozen BK556.out 0; have hfz99_1 := blk_frozen BK556.out 1; have hfz99_2 := blk_frozen BK556.out 2) | (go_at_call 23; (with_reducible refine (barscanlaw37_valid.calls a0_0 a0_1 _ _ l0_2 false _ ?side1 ?side2 A2.out).mono ?_); (case side1 => repeat (first | exact (Kd.C_below HR0_2.out HB.out) | (with_reducible refine Kd.C_alloc ?_ _) | (with_reducible refine Kd.C_drewN ?_ _) | (with_reducible refine Kd.C_drew ?_))); (case side2 => exact HC0_2.out); rintro e w100 ⟨rfl, hb⟩; have n0_ := Aside0.mk (blk_below (bkx BK556) hb); have n1_ := Aside0.mk (below_step (hb1 HB GE556) hb); clear BK556; clear HB; have BK556 := n0_; have HB := n1_; clear n0_ n1_; (try clear hb); (try clear hb2); (try clear hk); (try clear hi)) | (go_at_call 12; (with_reducible refine (barscanlaw37_examples.calls k  t558 _ A97.out).mono ?_); rintro e w101 ⟨rfl, hb⟩; have n0_ := Aside0.mk (blk_below (bkx BK556) hb); have n1_ := Aside0.mk (below_step (hb1 HB GE556) hb); clear BK556; clear HB; have BK556 := n0_; have HB := n1_; clear n0_ n1_; (try clear hb); (try clear hb2); (try clear hk); (try clear hi))))
  go_ret
  exact ⟨by first | rfl | (simp [errW_none, errW_some] <;> rfl) | (simp [*, errW_none, errW_some] <;> rfl), by repeat (first | (with_reducible first | exact HB.out | apply below_alloc | apply pw_below_drewN | apply below_drew1 | refine below_set ?_ GE556.out) | exact HB.out)⟩

end Go.Proofs.Ytkakiblnhgpdnaa.PR
