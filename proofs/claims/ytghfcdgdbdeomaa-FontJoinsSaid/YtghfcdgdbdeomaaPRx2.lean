-- Written by this session's own program (myprint.py).
import Derived.Test.YtghfcdgdbdeomaaPRx0
import Derived.Test.YtghfcdgdbdeomaaPRx1
namespace Go.Proofs.Ytghfcdgdbdeomaa.PR
open Go.RowKit Go.Proofs.YtghfcdgdbdeomaaW.PrintWords Go.Proofs.YtghfcdgdbdeomaaW.PrintLast Go.Proofs.YtghfcdgdbdeomaaW.PrintMore Go.Proofs.Ytghfcdgdbdeomaa.XWords Go.Proofs.Ytghfcdgdbdeomaa.XShort
attribute [local go_sem] max2_int min2_int max_two min_two max_three min_three max_four min_four   -- for this text's walks alone
set_option linter.unusedVariables false
set_option linter.unusedSimpArgs false

/-! ### font_Glyph: function 7 -/
def font_Glyph.l0 : Nat → Int → ByteArray → Int → Int → List Bool → ByteArray → Int → Option (Int × Int × List Bool × Int)
  | 0, _, _, _, _, _, _, _ => none
  | k + 1, x115000, x115001, x116000, x116001, x116002, x117000, x117001 => if 0 ≤ x117001 then (if x117001 < (x117000.size : Int) then (if x117001 < (x115001.size : Int) then (if x116002.length < 140737488355328 then (font_Glyph.l0 k x115000 x115001 x116000 x116001 (x116002 ++ [((bt x115001 x117001) == 49)]) x117000 (XIter.nx x117000 x117001)) else (none)) else (none)) else (some (x116000, x116001, x116002, 0))) else (none)
def font_Glyph.f (k : Nat) (a0 : Int) : Option (Int × Int × List Bool × Int) := (font_find.f k a0).bind fun bt111 => (if bt111.2.2 = true then (font_Glyph.l0 k bt111.1 bt111.2.1 5 7 ([] : List Bool) bt111.2.1 0) else (some (0, 0, ([] : List Bool), 6)))
theorem font_Glyph.mono_l : ∀ k, (∀ y0 y1 y2 y3 y4 y5 y6, LeO (font_Glyph.l0 k y0 y1 y2 y3 y4 y5 y6) (font_Glyph.l0 (k + 1) y0 y1 y2 y3 y4 y5 y6))
  | 0 => fun _ _ _ _ _ _ _ r h => by simp [font_Glyph.l0] at h
  | k + 1 => by
    have ih0 := font_Glyph.mono_l k
    · intro y0 y1 y2 y3 y4 y5 y6
      unfold font_Glyph.l0
      repeat' first
      | (with_reducible exact ih0 _ _ _ _ _ _ _)
      | (with_reducible exact font_find.mono _ _)
      | (with_reducible exact LeO.refl _)
      | (with_reducible exact LeO.none _)
      | (with_reducible refine LeO.ite ?_ ?_)
      | (with_reducible refine LeO.bind ?_ (fun _ => ?_))
      | exact ih0 _ _ _ _ _ _ _
      | exact font_find.mono _ _
      | exact LeO.none _
      | refine LeO.ite ?_ ?_
      | refine LeO.bind ?_ (fun _ => ?_)
theorem font_Glyph.mono : ∀ a0 k, LeO (font_Glyph.f k a0) (font_Glyph.f (k + 1) a0) := by
  intro a0 k
  have ih0 := font_Glyph.mono_l k
  unfold font_Glyph.f
  repeat' first
      | (with_reducible exact ih0 _ _ _ _ _ _ _)
      | (with_reducible exact font_find.mono _ _)
      | (with_reducible exact LeO.refl _)
      | (with_reducible exact LeO.none _)
      | (with_reducible refine LeO.ite ?_ ?_)
      | (with_reducible refine LeO.bind ?_ (fun _ => ?_))
      | exact ih0 _ _ _ _ _ _ _
      | exact font_find.mono _ _
      | exact LeO.none _
      | refine LeO.ite ?_ ?_
      | refine LeO.bind ?_ (fun _ => ?_)
def font_Glyph.T8 : Bool × List (List Nat × List Nat) := (true, [([], []), ([0], [0]), ([], []), ([2], [2]), ([], []), ([3, 4], [3, 4]), ([5], [5]), ([6], [6]), ([1, 7], [1, 7]), ([0, 1, 2, 3, 4, 5, 6, 7, 8], []), ([9, 8, 8, 0, 1, 2, 3, 4, 5, 6, 7, 8], [8, 9])])
def font_Glyph.B8 : List Nat := [0, 1, 0, 4, 0, 28, 60, 124, 255, 511, 1023]
theorem font_Glyph.tab8 : rtab .any (opsOf Try.f7 8) = font_Glyph.T8 := by kernel_rfl
theorem font_Glyph.bits8 : waitsOk font_Glyph.T8.2 font_Glyph.B8 = true := by kernel_rfl
set_option maxHeartbeats 8000000 in
set_option maxRecDepth 100000 in
theorem font_Glyph.calls (k : Nat) (a0 : Int) (r1 : Int) (r2 : Int) (r3 : List Bool) (r4 : Int) (w : World) (h : font_Glyph.f k a0 = some (r1, r2, r3, r4)) :
    Calls Try.prog 7 #[.int .u8 a0] w fun e w' => ∃ v2_ : Value, e = .returned (.tuple #[.agg #[.int .i64 r1, .int .i64 r2, v2_], .int .i64 r4]) ∧ Kd.R Kd.bool 4 w' w.heap.size (fun _ => True) v2_ r3 ∧ Below w.heap.size w w' := by
  have hu24 := Try.underlying24
  have hu44 := Try.underlying44
  have HB := Aside0.mk (Below.refl w.heap.size w)
  have H : ((font_find.f k a0).bind fun bt111 => (if bt111.2.2 = true then (font_Glyph.l0 k bt111.1 bt111.2.1 5 7 ([] : List Bool) bt111.2.1 0) else (some (0, 0, ([] : List Bool), 6)))) = some (r1, r2, r3, r4) := h
  clear h
  replace H := Option.bind_eq_some_iff.mp H
  obtain ⟨⟨t111, t112, t113⟩, A20, H⟩ := H
  replace H : (if t113 = true then (font_Glyph.l0 k t111 t112 5 7 ([] : List Bool) t112 0) else (some (0, 0, ([] : List Bool), 6))) = some (r1, r2, r3, r4) := H
  have A2 := Aside0.mk A20
  clear A20
  by_cases c3 : t113 = true
  · subst c3
    have H1 : (font_Glyph.l0 k t111 t112 5 7 ([] : List Bool) t112 0) = some (r1, r2, r3, r4) := by rw [if_pos rfl] at H; exact H
    clear H
    have H := H1
    clear H1
    have H' := Aside0.mk H
    clear H
    go_enter Try.func7, Try.ntmps7
    go_wp2_with (first | ((with_reducible refine gate_dst (N := 2) rfl ?_); refine box_event ?hg (N := 2) ?hd (cs := #[.int .i64 0, .int .i64 0, .slice none 0 0]) (t := 24) ?hr ?_; (case hd => rfl); (case hg => rfl); (case hr => first | (go_simp; done) | (go_simp; rfl)); intro gb110 hg w4 hbox hb; have n0_ := Aside0.mk (below_step (hb0 HB) hb); have n1_ := Aside0.mk (hbox); have n2_ := Aside0.mk ((by rw [hg]; exact (below_size (hb0 HB)) : w.heap.size ≤ gb110)); have n3_ := Aside0.mk ((by rw [hg]; exact (below_size (hb0 HB)) : w.heap.size ≤ gb110)); clear HB; have HB := n0_; have BK110 := n1_; have GW110 := n2_; have GE110 := n3_; clear n0_ n1_ n2_ n3_; clear hb hbox hg) | ((with_reducible refine gate_callee (f := 24) rfl ?_); refine goesL_ (some 10) rfl rfl Try.func24 (by kernel_rfl) rfl #[.int .u8 a0] rfl mapx ?_; (with_reducible refine (font_find.calls k a0 t111 t112 true _ A2.out).mono ?_); rintro e w5 ⟨rfl, hb⟩; refine ⟨_, rfl, ?_⟩; have n0_ := Aside0.mk (blk_below (bkx BK110) hb); have n1_ := Aside0.mk (below_step (hb1 HB GE110) hb); clear BK110; clear HB; have BK110 := n0_; have HB := n1_; clear n0_ n1_; (try clear hb); (try clear hb2); (try clear hk); (try clear hi)) | ((with_reducible refine gate_dst (N := 4) rfl ?_); refine box_event ?hg (N := 4) ?hd (cs := #[.int .u8 0, .string (⟨#[]⟩ : ByteArray)]) (t := 44) ?hr ?_; (case hd => rfl); (case hg => rfl); (case hr => first | (go_simp; done) | (go_simp; rfl)); intro gb114 hg w6 hbox hb; have n0_ := Aside0.mk (blk_below (bkx BK110) hb); have n1_ := Aside0.mk (below_step (hb1 HB GE110) hb); have n2_ := Aside0.mk (hbox); have n3_ := Aside0.mk ((by rw [hg]; exact (below_size (hb1 HB GE110)) : w.heap.size ≤ gb114)); have n4_ := Aside0.mk ((by rw [hg]; exact (below_size (hb1 HB GE110)) : w.heap.size ≤ gb114)); have n5_ := Aside0.mk (nel hg BK110 : gb110 ≠ gb114); have n6_ := Aside0.mk (neg hg BK110 : gb114 ≠ gb110); clear BK110; clear HB; have BK110 := n0_; have HB := n1_; have BK114 := n2_; have GW114 := n3_; have GE114 := n4_; have NB110_114 := n5_; have NB114_110 := n6_; clear n0_ n1_ n2_ n3_ n4_ n5_ n6_; clear hb hbox hg; have hnb7 := NB114_110.out; have hnc7 := NB110_114.out; have hcz8_0 : w6.cell? ⟨gb114, 0, none⟩ = some (.int .u8 0) := (blk_cell BK114.out 0).trans rfl; have hcz8_1 : w6.cell? ⟨gb114, 1, none⟩ = some (.string (⟨#[]⟩ : ByteArray)) := (blk_cell BK114.out 1).trans rfl; have hfz8_0 := blk_frozen BK114.out 0; have hfz8_1 := blk_frozen BK114.out 1) | ((with_reducible refine gate_dst (N := 6) rfl ?_); refine box_event ?hg (N := 6) ?hd (cs := #[.int .i64 0, .int .i64 0, .slice none 0 0]) (t := 24) ?hr ?_; (case hd => rfl); (case hg => rfl); (case hr => first | (go_simp; done) | (go_simp; rfl)); intro gb115 hg w9 hbox hb; have n0_ := Aside0.mk (blk_below (g := gb110) (o := .cells #[.int .i64 0, .int .i64 0, .slice none 0 0] 24 (0, 0)) (bky BK110 NB110_114) hb); have n1_ := Aside0.mk (blk_below (g := gb114) (o := .cells #[.int .u8 t111, .string t112] 44 (0, 0)) (by refine bkt ?_; refine blk_put (cs := #[.int .u8 t111, .string (⟨#[]⟩ : ByteArray)]) ?_ 1 _ rfl; refine bkt ?_; refine blk_put (cs := #[.int .u8 0, .string (⟨#[]⟩ : ByteArray)]) ?_ 0 _ rfl; refine bkt ?_; exact BK114.out) hb); have n2_ := Aside0.mk (below_step (hb2 HB GE110 GE114) hb); have n3_ := Aside0.mk (hbox); have n4_ := Aside0.mk ((by rw [hg]; exact (below_size (hb2 HB GE110 GE114)) : w.heap.size ≤ gb115)); have n5_ := Aside0.mk ((by rw [hg]; exact (below_size (hb2 HB GE110 GE114)) : w.heap.size ≤ gb115)); have n6_ := Aside0.mk ((by rw [hg]; exact Nat.ne_of_lt (blk_lt (g := gb110) (o := .cells #[.int .i64 0, .int .i64 0, .slice none 0 0] 24 (0, 0)) (bky BK110 NB110_114)) : gb110 ≠ gb115)); have n7_ := Aside0.mk ((by rw [hg]; exact Nat.ne_of_gt (blk_lt (g := gb110) (o := .cells #[.int .i64 0, .int .i64 0, .slice none 0 0] 24 (0, 0)) (bky BK110 NB110_114)) : gb115 ≠ gb110)); have n8_ := Aside0.mk ((by rw [hg]; exact Nat.ne_of_lt (blk_lt (g := gb114) (o := .cells #[.int .u8 t111, .string t112] 44 (0, 0)) (by refine bkt ?_; refine blk_put (cs := #[.int .u8 t111, .string (⟨#[]⟩ : ByteArray)]) ?_ 1 _ rfl; refine bkt ?_; refine blk_put (cs := #[.int .u8 0, .string (⟨#[]⟩ : ByteArray)]) ?_ 0 _ rfl; refine bkt ?_; exact BK114.out)) : gb114 ≠ gb115)); have n9_ := Aside0.mk ((by rw [hg]; exact Nat.ne_of_gt (blk_lt (g := gb114) (o := .cells #[.int .u8 t111, .string t112] 44 (0, 0)) (by refine bkt ?_; refine blk_put (cs := #[.int .u8 t111, .string (⟨#[]⟩ : ByteArray)]) ?_ 1 _ rfl; refine bkt ?_; refine blk_put (cs := #[.int .u8 0, .string (⟨#[]⟩ : ByteArray)]) ?_ 0 _ rfl; refine bkt ?_; exact BK114.out)) : gb115 ≠ gb114)); clear BK110; clear BK114; clear HB; have BK110 := n0_; have BK114 := n1_; have HB := n2_; have BK115 := n3_; have GW115 := n4_; have GE115 := n5_; have NB110_115 := n6_; have NB115_110 := n7_; have NB114_115 := n8_; have NB115_114 := n9_; clear n0_ n1_ n2_ n3_ n4_ n5_ n6_ n7_ n8_ n9_; clear hb hbox hg; have hnb10 := NB115_110.out; have hnc10 := NB110_115.out; have hnb11 := NB115_114.out; have hnc11 := NB114_115.out; have hcz12_0 : w9.cell? ⟨gb115, 0, none⟩ = some (.int .i64 0) := (blk_cell BK115.out 0).trans rfl; have hcz12_1 : w9.cell? ⟨gb115, 1, none⟩ = some (.int .i64 0) := (blk_cell BK115.out 1).trans rfl; have hcz12_2 : w9.cell? ⟨gb115, 2, none⟩ = some (.slice none 0 0) := (blk_cell BK115.out 2).trans rfl; have hfz12_0 := blk_frozen BK115.out 0; have hfz12_1 := blk_frozen BK115.out 1; have hfz12_2 := blk_frozen BK115.out 2; have hcz13_0 : w9.cell? ⟨gb114, 0, none⟩ = some (.int .u8 t111) := (blk_cell BK114.out 0).trans rfl; have hcz13_1 : w9.cell? ⟨gb114, 1, none⟩ = some (.string t112) := (blk_cell BK114.out 1).trans rfl; have hfz13_0 := blk_frozen BK114.out 0; have hfz13_1 := blk_frozen BK114.out 1) | ((with_reducible refine gate_dst (N := 19) rfl ?_); refine XIter.iter_event (t := 9) (x := (.tmp 18)) (s := t112) (N := 19) ?hg ?hd ?ho ?hu ?hx ?_; (case hg => rfl); (case hd => rfl); (case ho => rfl); (case hu => exact Try.underlying9); (case hx => first | rfl | (go_simp; done) | (go_simp; rfl)); intro gb116 hg w14 hbox hb; have n0_ := Aside0.mk (blk_below (g := gb110) (o := .cells #[.int .i64 0, .int .i64 0, .slice none 0 0] 24 (0, 0)) (bky BK110 NB110_115) hb); have n1_ := Aside0.mk (blk_below (g := gb114) (o := .cells #[.int .u8 t111, .string t112] 44 (0, 0)) (bky BK114 NB114_115) hb); have n2_ := Aside0.mk (blk_below (g := gb115) (o := .cells #[.int .i64 5, .int .i64 7, .slice none 0 0] 24 (0, 0)) (by refine bkt ?_; refine blk_put (cs := #[.int .i64 5, .int .i64 7, .slice none 0 0]) ?_ 2 _ rfl; refine bkt ?_; refine blk_put (cs := #[.int .i64 5, .int .i64 0, .slice none 0 0]) ?_ 1 _ rfl; refine bkt ?_; refine blk_put (cs := #[.int .i64 0, .int .i64 0, .slice none 0 0]) ?_ 0 _ rfl; refine bkt ?_; exact BK115.out) hb); have n3_ := Aside0.mk (below_step (hb3 HB GE110 GE114 GE115) hb); have n4_ := Aside0.mk (hbox); have n5_ := Aside0.mk ((by rw [hg]; exact (below_size (hb3 HB GE110 GE114 GE115)) : w.heap.size ≤ gb116)); have n6_ := Aside0.mk ((by rw [hg]; exact (below_size (hb3 HB GE110 GE114 GE115)) : w.heap.size ≤ gb116)); have n7_ := Aside0.mk ((by rw [hg]; exact Nat.ne_of_lt (blk_lt (g := gb110) (o := .cells #[.int .i64 0, .int .i64 0, .slice none 0 0] 24 (0, 0)) (bky BK110 NB110_115)) : gb110 ≠ gb116)); have n8_ := Aside0.mk ((by rw [hg]; exact Nat.ne_of_gt (blk_lt (g := gb110) (o := .cells #[.int .i64 0, .int .i64 0, .slice none 0 0] 24 (0, 0)) (bky BK110 NB110_115)) : gb116 ≠ gb110)); have n9_ := Aside0.mk ((by rw [hg]; exact Nat.ne_of_lt (blk_lt (g := gb114) (o := .cells #[.int .u8 t111, .string t112] 44 (0, 0)) (bky BK114 NB114_115)) : gb114 ≠ gb116)); have n10_ := Aside0.mk ((by rw [hg]; exact Nat.ne_of_gt (blk_lt (g := gb114) (o := .cells #[.int .u8 t111, .string t112] 44 (0, 0)) (bky BK114 NB114_115)) : gb116 ≠ gb114)); have n11_ := Aside0.mk ((by rw [hg]; exact Nat.ne_of_lt (blk_lt (g := gb115) (o := .cells #[.int .i64 5, .int .i64 7, .slice none 0 0] 24 (0, 0)) (by refine bkt ?_; refine blk_put (cs := #[.int .i64 5, .int .i64 7, .slice none 0 0]) ?_ 2 _ rfl; refine bkt ?_; refine blk_put (cs := #[.int .i64 5, .int .i64 0, .slice none 0 0]) ?_ 1 _ rfl; refine bkt ?_; refine blk_put (cs := #[.int .i64 0, .int .i64 0, .slice none 0 0]) ?_ 0 _ rfl; refine bkt ?_; exact BK115.out)) : gb115 ≠ gb116)); have n12_ := Aside0.mk ((by rw [hg]; exact Nat.ne_of_gt (blk_lt (g := gb115) (o := .cells #[.int .i64 5, .int .i64 7, .slice none 0 0] 24 (0, 0)) (by refine bkt ?_; refine blk_put (cs := #[.int .i64 5, .int .i64 7, .slice none 0 0]) ?_ 2 _ rfl; refine bkt ?_; refine blk_put (cs := #[.int .i64 5, .int .i64 0, .slice none 0 0]) ?_ 1 _ rfl; refine bkt ?_; refine blk_put (cs := #[.int .i64 0, .int .i64 0, .slice none 0 0]) ?_ 0 _ rfl; refine bkt ?_; exact BK115.out)) : gb116 ≠ gb115)); clear BK110; clear BK114; clear BK115; clear HB; have BK110 := n0_; have BK114 := n1_; have BK115 := n2_; have HB := n3_; have BK116 := n4_; have GW116 := n5_; have GE116 := n6_; have NB110_116 := n7_; have NB116_110 := n8_; have NB114_116 := n9_; have NB116_114 := n10_; have NB115_116 := n11_; have NB116_115 := n12_; clear n0_ n1_ n2_ n3_ n4_ n5_ n6_ n7_ n8_ n9_ n10_ n11_ n12_; clear hb hbox hg; (try simp only [Act.put, List.setIfInBounds_toArray, List.set_cons_zero, List.set_cons_succ])))
    go_loopg [] k (fun kq w' => ∃ (x116002_1 : List Bool) (x117001_1 : Int) (u116002 : Value), Aside0 (font_Glyph.l0 kq t111 t112 5 7 x116002_1 t112 x117001_1 = some (r1, r2, r3, r4)) ∧ Aside0 (kq ≤ k) ∧ Aside0 (Kd.R Kd.bool 4 w' w.heap.size (fun _ => True) u116002 x116002_1) ∧ Aside0 (w'.heap[gb110]? = some (.cells #[.int .i64 0, .int .i64 0, (.slice none 0 0)] 24 (0, 0))) ∧ Aside0 (w'.heap[gb114]? = some (.cells #[.int .u8 t111, .string t112] 44 (0, 0))) ∧ Aside0 (w'.heap[gb115]? = some (.cells #[.int .i64 5, .int .i64 7, u116002] 24 (0, 0))) ∧ Aside0 (w'.heap[gb116]? = some (.stringIter t112 (x117001_1 : Int).toNat)) ∧ Aside0 (Below w.heap.size w w'))
    case atStart => exact ⟨(([] : List Bool)), (0), (.slice none 0 0), H', ⟨Nat.le_refl _⟩, ⟨by first | exact Kd.R_nil _ _ _ _ _ | exact Kd.N_nil _ _ _ _ _ | exact Kd.V_nil _ _ _ _ _ | exact Kd.Q_nil _ _ _ _ _ | exact Kd.S_nil _ _ _ _ _⟩, ⟨bkx BK110⟩, ⟨bkx BK114⟩, ⟨bkx BK115⟩, ⟨bkx BK116⟩, ⟨hb4 HB GE110 GE114 GE115 GE116⟩⟩
    case round =>
      clear H'
      try clear c1
      try clear c2
      try clear p2
      try clear c3
      try clear c7
      try clear c10
      try clear c11
      try clear hcz12_0
      try clear hcz12_1
      try clear hcz12_2
      try clear hcz13_0
      try clear hcz13_1
      try clear hcz8_0
      try clear hcz8_1
      try clear hfz12_0
      try clear hfz12_1
      try clear hfz12_2
      try clear hfz13_0
      try clear hfz13_1
      try clear hfz8_0
      try clear hfz8_1
      obtain ⟨x116002_1, x117001_1, u116002, HA, HK1, HO_116002, BK110, BK114, BK115, BK116, HB⟩ := hrel
      cases gk with
      | zero => exact absurd HA.out (by simp [font_Glyph.l0])
      | succ k1 =>
        have H := HA.out
        clear HA
        simp only [font_Glyph.l0] at H
        by_cases c15 : 0 ≤ x117001_1
        · rw [if_pos c15] at H
          have c15b0 := eq_true c15
          have c15b1 : decide (0 ≤ x117001_1) = true := decide_eq_true c15
          clear c15
          by_cases c16 : x117001_1 < (t112.size : Int)
          · rw [if_pos c16] at H
            have c16b0 : decide (x117001_1 < (t112.size : Int)) = true := decide_eq_true c16
            clear c16
            by_cases c17 : x117001_1 < (t112.size : Int)
            · rw [if_pos c17] at H
              have c17b0 : decide (x117001_1 < (t112.size : Int)) = true := decide_eq_true c17
              clear c17
              by_cases c19 : x116002_1.length < 140737488355328
              · rw [if_pos c19] at H
                have LMc19 := Aside0.mk c19
                clear c19
                obtain ⟨y117, hy117⟩ : ∃ y_ : List Bool, y_ = (x116002_1 ++ [((bt t112 x117001_1) == 49)]) := ⟨_, rfl⟩
                replace H : (font_Glyph.l0 k1 t111 t112 5 7 y117 t112 (XIter.nx t112 x117001_1)) = some (r1, r2, r3, r4) := by first | (rw [hy117]; with_reducible exact H) | (have H2_ := (Option.bind_some _ _).symm.trans H; rw [hy117]; with_reducible exact H2_) | (have H2_ := (Option.bind_some _ _).symm.trans H; with_reducible exact H2_) | with_reducible exact H | (rw [hy117]; exact H) | exact H
                have Ny117 := Aside0.mk hy117
                clear hy117
                have H' := Aside0.mk H
                clear H
                try go_wp2_with (first | ((with_reducible refine gate_dst (N := 20) rfl ?_); refine XIter.next_some (i := .tmp 19) (g := gb116) (s := t112) (x := x117001_1) (N := 20) ?hg ?hd ?ho ?hi ?hb ?h0 ?h1 ?_; (case hg => rfl); (case hd => rfl); (case ho => rfl); (case hi => first | rfl | (go_simp; done) | (go_simp; rfl)); (case hb => exact (show _ = some (Obj.stringIter t112 (x117001_1 : Int).toNat) from by refine bkt ?_; exact BK116.out)); (case h0 => exact of_decide_eq_true (by first | (with_reducible assumption) | assumption)); (case h1 => exact of_decide_eq_true (by first | (with_reducible assumption) | assumption)); intro w20 hs hbox; have n0_ := Aside0.mk (XIter.R_it (rkx HO_116002) (show _ = some (Obj.stringIter t112 (x117001_1 : Int).toNat) from by refine bkt ?_; exact BK116.out) hs); have n1_ := Aside0.mk (XIter.blk_it (show _ = some (Obj.cells #[.int .i64 0, .int .i64 0, .slice none 0 0] 24 (0, 0)) from by refine bkt ?_; exact BK110.out) (show _ = some (Obj.stringIter t112 (x117001_1 : Int).toNat) from by refine bkt ?_; exact BK116.out) hs); have n2_ := Aside0.mk (XIter.blk_it (show _ = some (Obj.cells #[.int .u8 t111, .string t112] 44 (0, 0)) from by refine bkt ?_; exact BK114.out) (show _ = some (Obj.stringIter t112 (x117001_1 : Int).toNat) from by refine bkt ?_; exact BK116.out) hs); have n3_ := Aside0.mk (XIter.blk_it (show _ = some (Obj.cells #[.int .i64 5, .int .i64 7, u116002] 24 (0, 0)) from by refine bkt ?_; exact BK115.out) (show _ = some (Obj.stringIter t112 (x117001_1 : Int).toNat) from by refine bkt ?_; exact BK116.out) hs); have n4_ := Aside0.mk (XIter.below_it (hb4 HB GE110 GE114 GE115 GE116) GE116.out hs); have n5_ := Aside0.mk (hbox); clear HO_116002; clear BK110; clear BK114; clear BK115; clear HB; clear BK116; have HO_116002 := n0_; have BK110 := n1_; have BK114 := n2_; have BK115 := n3_; have HB := n4_; have BK116 := n5_; clear n0_ n1_ n2_ n3_ n4_ n5_; clear hs hbox; (try simp only [Act.put, List.setIfInBounds_toArray, List.set_cons_zero, List.set_cons_succ])))
                have n0_ := Aside0.mk (Kd.R_drew HO_116002.out)
                have n1_ := Aside0.mk (blk_drew BK110.out)
                have n2_ := Aside0.mk (blk_drew BK114.out)
                have n3_ := Aside0.mk (blk_drew BK115.out)
                have n4_ := Aside0.mk (blk_drew BK116.out)
                have n5_ := Aside0.mk (below_drew1 HB.out)
                clear HO_116002
                clear BK110
                clear BK114
                clear BK115
                clear BK116
                clear HB
                have HO_116002 := n0_
                have BK110 := n1_
                have BK114 := n2_
                have BK115 := n3_
                have BK116 := n4_
                have HB := n5_
                clear n0_ n1_ n2_ n3_ n4_ n5_
                have p18 : 0 ≤ (x117001_1 : Int) := of_decide_eq_true (by first | (with_reducible assumption) | assumption)
                have q18 : x117001_1 < (t112.size : Int) := of_decide_eq_true (by first | (with_reducible assumption) | assumption)
                have hx18 := bt_at t112 x117001_1
                replace p18 := eq_true p18
                replace q18 := eq_true q18
                refine start_ (n := 11) (S := fun w' => w'.cell? ⟨gb115, 0, none⟩ = some (.int .i64 5) ∧ w'.cell? ⟨gb115, 1, none⟩ = some (.int .i64 7) ∧ w'.cell? ⟨gb115, 2, none⟩ = some (u116002) ∧ w'.cell? ⟨gb114, 0, none⟩ = some (.int .u8 t111) ∧ w'.cell? ⟨gb114, 1, none⟩ = some (.string t112)) (ds := [10]) (bA 11 0) (by kernel_rfl) rfl rfl ⟨(blk_cell BK115.out 0).trans rfl, (blk_cell BK115.out 1).trans rfl, (blk_cell BK115.out 2).trans rfl, (blk_cell BK114.out 0).trans rfl, (blk_cell BK114.out 1).trans rfl⟩ (fun hHeld => ?_); refine with_tabW font_Glyph.tab8 font_Glyph.bits8 (fun HT_ HW_ => ?_)
                generalize w20.drew = w21 at HO_116002 BK110 BK114 BK115 BK116 HB hHeld ⊢
                refine pt HT_ 0 23 ?_
                refine pt HT_ 2 25 ?_
                refine pt HT_ 4 27 ?_
                refine tk HT_ HW_ hHeld 1 24 ?_
                refine tk HT_ HW_ hHeld 3 26 ?_
                refine tk HT_ HW_ hHeld 5 28 ?_
                refine pt HT_ 6 29 ?_
                refine one_ (i := 7) (N := some 30) (bA 11 255) rfl rfl (one_of HT_.out (by kernel_rfl)) (by decide) (fun K hK => ?_)
                refine value_ (w1 := ?_) (v := ?_) (by rfl) rfl ?_ ?_
                rotate_left 2
                · go_simp
                  constructor
                  · rfl
                  · rfl
                refine hK.out _ _ ⟨(blk_cell (blk_alloc BK115.out _) 0).trans rfl, (blk_cell (blk_alloc BK115.out _) 1).trans rfl, (blk_cell (blk_alloc BK115.out _) 2).trans rfl, (blk_cell (blk_alloc BK114.out _) 0).trans rfl, (blk_cell (blk_alloc BK114.out _) 1).trans rfl⟩ (fun hHeld => ?_)
                clear hK K
                refine norm_ (a' := ?_) ?_ ?_
                rotate_left
                · show Act.put _ (some 30) _ = _
                  simp only [Act.put, List.setIfInBounds_toArray, List.set_cons_zero, List.set_cons_succ, i64_w, i32_w]
                  rfl
                refine one_ (i := 8) (N := some 31) (bA 11 511) rfl rfl (one_of HT_.out (by kernel_rfl)) (by decide) (fun K hK => ?_)
                refine Kd.R_append_step Kd.bool (w0 := w) w.heap.size (by rfl) (.tmp 24) (.tmp 30) 22 4 (.bool false) 1 rfl Try.underlying22 info4 rfl (by decide) (by omega) u116002 x116002_1 ((bt t112 x117001_1) == 49) [.bool ((bt t112 x117001_1) == 49)] (fun _ => True) (fun _ => False) rfl rfl ?aP (fun _ hk => hk.elim) ?aF ?aO ?aB ?aS ?aL ?_
                (case aP => exact rfl)
                (case aB => exact (hb4 HB GE110 GE114 GE115 GE116))
                (case aF => exact (fun _ _ => trivial))
                (case aO => exact (rkx HO_116002))
                (case aS => exact (below_size (hb4 HB GE110 GE114 GE115 GE116)))
                (case aL => have := LMc19.out; omega)
                intro v118 w22 ho hb hg hat
                rw [← Ny117.out] at ho
                have n0_ := Aside0.mk (blk_grown (g := gb110) (o := .cells #[.int .i64 0, .int .i64 0, .slice none 0 0] 24 (0, 0)) (bkx BK110) hg (Kd.R_ne HO_116002.out BK110.out (by decide)))
                have n1_ := Aside0.mk (blk_grown (g := gb114) (o := .cells #[.int .u8 t111, .string t112] 44 (0, 0)) (bkx BK114) hg (Kd.R_ne HO_116002.out BK114.out (by decide)))
                have n2_ := Aside0.mk (blk_grown (g := gb115) (o := .cells #[.int .i64 5, .int .i64 7, u116002] 24 (0, 0)) (bkx BK115) hg (Kd.R_ne HO_116002.out BK115.out (by decide)))
                have n3_ := Aside0.mk (blk_grown (g := gb116) (o := .stringIter t112 (XIter.nx t112 x117001_1 : Int).toNat) (bkx BK116) hg (XIter.R_ne_it HO_116002.out BK116.out))
                have n4_ := Aside0.mk (hb)
                have n5_ := Aside0.mk (ho)
                clear BK110
                clear BK114
                clear BK115
                clear BK116
                clear HB
                clear HO_116002
                have BK110 := n0_
                have BK114 := n1_
                have BK115 := n2_
                have BK116 := n3_
                have HB := n4_
                have HO119 := n5_
                clear n0_ n1_ n2_ n3_ n4_ n5_
                clear ho hb hg hat
                obtain ⟨Ao23, co23, eo23⟩ := Kd.R_slice HO119.out
                (first | subst eo23 | (injection eo23 with f1_ f2_ f3_; have f4_ := f1_.symm; have f5_ := f3_.symm; clear f1_ f2_ f3_; subst f4_; subst f5_))
                refine hK.out _ _ ⟨(blk_cell BK115.out 0).trans rfl, (blk_cell BK115.out 1).trans rfl, (blk_cell BK115.out 2).trans rfl, (blk_cell BK114.out 0).trans rfl, (blk_cell BK114.out 1).trans rfl⟩ (fun hHeld => ?_)
                clear hK K
                refine norm_ (a' := ?_) ?_ ?_
                rotate_left
                · show Act.put _ (some 31) _ = _
                  simp only [Act.put, List.setIfInBounds_toArray, List.set_cons_zero, List.set_cons_succ, i64_w, i32_w]
                  rfl
                refine pt HT_ 9 32 ?_
                refine last_ (i := 10) (N := none) (bA 11 2047) rfl rfl (one_of HT_.out (by kernel_rfl)) (by decide) (fun K hK => ?_)
                have hs24 : w22.cell? ⟨gb115, 2, none⟩ = some (u116002) := (blk_cell BK115.out 2).trans rfl
                have hfs24 := blk_frozen BK115.out 2
                have hns24_0 := NB110_115.out
                have hns24_1 := NB114_115.out
                have hns24_3 := NB116_115.out
                have hms24_0 := NB115_110.out
                have hms24_1 := NB115_114.out
                have hms24_3 := NB115_116.out
                refine skip_ (w1 := ?_) (by rfl) rfl ?_ ?_
                rotate_left
                · go_simp
                  rfl
                refine hK.out _ _ ?_
                clear hK K
                refine done_ (done_of HT_.out (by kernel_rfl)) ?_
                try go_wp2
                go_roundg k1
                case measure => have := HK1.out; omega
                case rel => exact ⟨(y117), (XIter.nx t112 x117001_1), (.slice Ao23 y117.length co23), H', ⟨by have := HK1.out; omega⟩, ⟨by refine rkt ?_; exact Kd.R_mono (Kd.R_far (p := ⟨gb115, 2, none⟩) (Kd.R_types HO119.out BK115.out (by decide)) (fun _ hk => hk.2) (.slice Ao23 y117.length co23)) (fun _ hk => trivial)⟩, ⟨bky BK110 NB110_115⟩, ⟨bky BK114 NB114_115⟩, ⟨by refine bkt ?_; refine blk_put (cs := #[.int .i64 5, .int .i64 7, u116002]) ?_ 2 _ rfl; refine bkt ?_; exact BK115.out⟩, ⟨by refine bkt ?_; refine XIter.it_far ?_ NB116_115.out; refine bkt ?_; exact BK116.out⟩, ⟨hb4 HB GE110 GE114 GE115 GE116⟩⟩
              · rw [if_neg c19] at H
                exact absurd H (by simp)
            · rw [if_neg c17] at H
              exact absurd H (by simp)
          · rw [if_neg c16] at H
            have c16b0 : decide (x117001_1 < (t112.size : Int)) = false := decide_eq_false c16
            clear c16
            simp only [Option.some.injEq, Prod.mk.injEq] at H
            obtain ⟨rfl, rfl, rfl, rfl⟩ := H
            go_wp2_with (first | ((with_reducible refine gate_dst (N := 20) rfl ?_); refine XIter.next_none (i := .tmp 19) (g := gb116) (s := t112) (x := x117001_1) (N := 20) ?hg ?hd ?ho ?hi ?hb ?h0 ?h1 ?_; (case hg => rfl); (case hd => rfl); (case ho => rfl); (case hi => first | rfl | (go_simp; done) | (go_simp; rfl)); (case hb => exact (show _ = some (Obj.stringIter t112 (x117001_1 : Int).toNat) from by refine bkt ?_; exact BK116.out)); (case h0 => exact of_decide_eq_true (by first | (with_reducible assumption) | assumption)); (case h1 => exact of_decide_eq_false (by first | (with_reducible assumption) | assumption)); intro w25 hs hbox; have n0_ := Aside0.mk (XIter.R_it (rkx HO_116002) (show _ = some (Obj.stringIter t112 (x117001_1 : Int).toNat) from by refine bkt ?_; exact BK116.out) hs); have n1_ := Aside0.mk (XIter.blk_it (show _ = some (Obj.cells #[.int .i64 0, .int .i64 0, .slice none 0 0] 24 (0, 0)) from by refine bkt ?_; exact BK110.out) (show _ = some (Obj.stringIter t112 (x117001_1 : Int).toNat) from by refine bkt ?_; exact BK116.out) hs); have n2_ := Aside0.mk (XIter.blk_it (show _ = some (Obj.cells #[.int .u8 t111, .string t112] 44 (0, 0)) from by refine bkt ?_; exact BK114.out) (show _ = some (Obj.stringIter t112 (x117001_1 : Int).toNat) from by refine bkt ?_; exact BK116.out) hs); have n3_ := Aside0.mk (XIter.blk_it (show _ = some (Obj.cells #[.int .i64 5, .int .i64 7, u116002] 24 (0, 0)) from by refine bkt ?_; exact BK115.out) (show _ = some (Obj.stringIter t112 (x117001_1 : Int).toNat) from by refine bkt ?_; exact BK116.out) hs); have n4_ := Aside0.mk (XIter.below_it (hb4 HB GE110 GE114 GE115 GE116) GE116.out hs); have n5_ := Aside0.mk (hbox); clear HO_116002; clear BK110; clear BK114; clear BK115; clear HB; clear BK116; have HO_116002 := n0_; have BK110 := n1_; have BK114 := n2_; have BK115 := n3_; have HB := n4_; have BK116 := n5_; clear n0_ n1_ n2_ n3_ n4_ n5_; clear hs hbox; (try simp only [Act.put, List.setIfInBounds_toArray, List.set_cons_zero, List.set_cons_succ]); have hnb26 := NB115_110.out; have hnc26 := NB110_115.out; have hnb27 := NB115_114.out; have hnc27 := NB114_115.out; have hnb28 := NB115_116.out; have hnc28 := NB116_115.out; have hcz29_0 : w25.cell? ⟨gb115, 0, none⟩ = some (.int .i64 5) := (blk_cell BK115.out 0).trans rfl; have hcz29_1 : w25.cell? ⟨gb115, 1, none⟩ = some (.int .i64 7) := (blk_cell BK115.out 1).trans rfl; have hcz29_2 : w25.cell? ⟨gb115, 2, none⟩ = some (u116002) := (blk_cell BK115.out 2).trans rfl; have hfz29_0 := blk_frozen BK115.out 0; have hfz29_1 := blk_frozen BK115.out 1; have hfz29_2 := blk_frozen BK115.out 2; have hnb30 := NB110_114.out; have hnc30 := NB114_110.out; have hnb31 := NB110_116.out; have hnc31 := NB116_110.out; have hcz32_0 : w25.cell? ⟨gb110, 0, none⟩ = some (.int .i64 0) := (blk_cell BK110.out 0).trans rfl; have hcz32_1 : w25.cell? ⟨gb110, 1, none⟩ = some (.int .i64 0) := (blk_cell BK110.out 1).trans rfl; have hcz32_2 : w25.cell? ⟨gb110, 2, none⟩ = some (.slice none 0 0) := (blk_cell BK110.out 2).trans rfl; have hfz32_0 := blk_frozen BK110.out 0; have hfz32_1 := blk_frozen BK110.out 1; have hfz32_2 := blk_frozen BK110.out 2; obtain ⟨Ao33, co33, eo33⟩ := Kd.R_slice HO_116002.out; subst eo33))
            refine bodyPost_ret (results_ct rfl _ _ gb110 24 #[.int .i64 5, .int .i64 7, .slice Ao33 x116002_1.length co33] (0, 0) _ rfl (by refine bkt ?_; refine blk_put (cs := #[.int .i64 5, .int .i64 7, .slice none 0 0]) ?_ 2 _ rfl; refine bkt ?_; refine blk_put (cs := #[.int .i64 5, .int .i64 0, .slice none 0 0]) ?_ 1 _ rfl; refine bkt ?_; refine blk_put (cs := #[.int .i64 0, .int .i64 0, .slice none 0 0]) ?_ 0 _ rfl; refine bkt ?_; exact BK110.out) Try.underlying24 rfl (by kernel_rfl)) rfl ?_
            exact ⟨_, by first | rfl | (simp [errW_none, errW_some] <;> rfl) | (simp [*, errW_none, errW_some] <;> rfl), by refine rkt ?_; exact Kd.R_mono (Kd.R_far (p := ⟨gb110, 2, none⟩) (Kd.R_far (p := ⟨gb110, 1, none⟩) (Kd.R_far (p := ⟨gb110, 0, none⟩) (Kd.R_types HO_116002.out BK110.out (by decide)) (fun _ hk => hk.2) (.int .i64 5)) (fun _ hk => hk.2) (.int .i64 7)) (fun _ hk => hk.2) (.slice Ao33 x116002_1.length co33)) (fun _ hk => trivial), by repeat (first | (with_reducible first | exact HB.out | apply below_alloc | apply pw_below_drewN | apply below_drew1 | refine below_set ?_ GE110.out | refine below_set ?_ GE114.out | refine below_set ?_ GE115.out | refine below_set ?_ GE116.out) | exact HB.out)⟩
        · rw [if_neg c15] at H
          exact absurd H (by simp)
  · replace c3 := Bool.eq_false_iff.mpr c3
    subst c3
    have H1 : (some (0, 0, ([] : List Bool), 6)) = some (r1, r2, r3, r4) := by rw [if_neg (show ¬ (false = true) by decide)] at H; exact H
    clear H
    have H := H1
    clear H1
    simp only [Option.some.injEq, Prod.mk.injEq] at H
    obtain ⟨rfl, rfl, rfl, rfl⟩ := H
    go_enter Try.func7, Try.ntmps7
    go_wp2_with (first | ((with_reducible refine gate_dst (N := 2) rfl ?_); refine box_event ?hg (N := 2) ?hd (cs := #[.int .i64 0, .int .i64 0, .slice none 0 0]) (t := 24) ?hr ?_; (case hd => rfl); (case hg => rfl); (case hr => first | (go_simp; done) | (go_simp; rfl)); intro gb110 hg w34 hbox hb; have n0_ := Aside0.mk (below_step (hb0 HB) hb); have n1_ := Aside0.mk (hbox); have n2_ := Aside0.mk ((by rw [hg]; exact (below_size (hb0 HB)) : w.heap.size ≤ gb110)); have n3_ := Aside0.mk ((by rw [hg]; exact (below_size (hb0 HB)) : w.heap.size ≤ gb110)); clear HB; have HB := n0_; have BK110 := n1_; have GW110 := n2_; have GE110 := n3_; clear n0_ n1_ n2_ n3_; clear hb hbox hg) | ((with_reducible refine gate_callee (f := 24) rfl ?_); refine goesL_ (some 10) rfl rfl Try.func24 (by kernel_rfl) rfl #[.int .u8 a0] rfl mapx ?_; (with_reducible refine (font_find.calls k a0 t111 t112 false _ A2.out).mono ?_); rintro e w35 ⟨rfl, hb⟩; refine ⟨_, rfl, ?_⟩; have n0_ := Aside0.mk (blk_below (bkx BK110) hb); have n1_ := Aside0.mk (below_step (hb1 HB GE110) hb); clear BK110; clear HB; have BK110 := n0_; have HB := n1_; clear n0_ n1_; (try clear hb); (try clear hb2); (try clear hk); (try clear hi)) | ((with_reducible refine gate_dst (N := 4) rfl ?_); refine box_event ?hg (N := 4) ?hd (cs := #[.int .u8 0, .string (⟨#[]⟩ : ByteArray)]) (t := 44) ?hr ?_; (case hd => rfl); (case hg => rfl); (case hr => first | (go_simp; done) | (go_simp; rfl)); intro gb114 hg w36 hbox hb; have n0_ := Aside0.mk (blk_below (bkx BK110) hb); have n1_ := Aside0.mk (below_step (hb1 HB GE110) hb); have n2_ := Aside0.mk (hbox); have n3_ := Aside0.mk ((by rw [hg]; exact (below_size (hb1 HB GE110)) : w.heap.size ≤ gb114)); have n4_ := Aside0.mk ((by rw [hg]; exact (below_size (hb1 HB GE110)) : w.heap.size ≤ gb114)); have n5_ := Aside0.mk (nel hg BK110 : gb110 ≠ gb114); have n6_ := Aside0.mk (neg hg BK110 : gb114 ≠ gb110); clear BK110; clear HB; have BK110 := n0_; have HB := n1_; have BK114 := n2_; have GW114 := n3_; have GE114 := n4_; have NB110_114 := n5_; have NB114_110 := n6_; clear n0_ n1_ n2_ n3_ n4_ n5_ n6_; clear hb hbox hg; have hnb37 := NB114_110.out; have hnc37 := NB110_114.out; have hcz38_0 : w36.cell? ⟨gb114, 0, none⟩ = some (.int .u8 0) := (blk_cell BK114.out 0).trans rfl; have hcz38_1 : w36.cell? ⟨gb114, 1, none⟩ = some (.string (⟨#[]⟩ : ByteArray)) := (blk_cell BK114.out 1).trans rfl; have hfz38_0 := blk_frozen BK114.out 0; have hfz38_1 := blk_frozen BK114.out 1; have hcz39_0 : w36.cell? ⟨gb110, 0, none⟩ = some (.int .i64 0) := (blk_cell BK110.out 0).trans rfl; have hcz39_1 : w36.cell? ⟨gb110, 1, none⟩ = some (.int .i64 0) := (blk_cell BK110.out 1).trans rfl; have hcz39_2 : w36.cell? ⟨gb110, 2, none⟩ = some (.slice none 0 0) := (blk_cell BK110.out 2).trans rfl; have hfz39_0 := blk_frozen BK110.out 0; have hfz39_1 := blk_frozen BK110.out 1; have hfz39_2 := blk_frozen BK110.out 2))
    refine bodyPost_ret (results_ct rfl _ _ gb110 24 #[.int .i64 0, .int .i64 0, .slice none 0 0] (0, 0) _ rfl (by refine bkt ?_; refine blk_put (cs := #[.int .i64 0, .int .i64 0, .slice none 0 0]) ?_ 2 _ rfl; refine bkt ?_; refine blk_put (cs := #[.int .i64 0, .int .i64 0, .slice none 0 0]) ?_ 1 _ rfl; refine bkt ?_; refine blk_put (cs := #[.int .i64 0, .int .i64 0, .slice none 0 0]) ?_ 0 _ rfl; refine bkt ?_; refine blk_far ?_ NB110_114.out _; refine bkt ?_; refine blk_far ?_ NB110_114.out _; refine bkt ?_; exact BK110.out) Try.underlying24 rfl (by kernel_rfl)) rfl ?_
    exact ⟨_, by first | rfl | (simp [errW_none, errW_some] <;> rfl) | (simp [*, errW_none, errW_some] <;> rfl), by first | exact Kd.R_nil _ _ _ _ _ | exact Kd.N_nil _ _ _ _ _ | exact Kd.V_nil _ _ _ _ _ | exact Kd.Q_nil _ _ _ _ _ | exact Kd.S_nil _ _ _ _ _, by repeat (first | (with_reducible first | exact HB.out | apply below_alloc | apply pw_below_drewN | apply below_drew1 | refine below_set ?_ GE110.out | refine below_set ?_ GE114.out) | exact HB.out)⟩

/-! ### barscanlaw47_word: function 8 -/
def barscanlaw47_word.f (a0 : Int) : Option (Bool) := if a0 ≥ 48 then (if a0 ≤ 57 then (some true) else (if a0 ≥ 65 then (some (decide (a0 ≤ 90))) else (some false))) else (if a0 ≥ 65 then (some (decide (a0 ≤ 90))) else (some false))
set_option maxHeartbeats 8000000 in
set_option maxRecDepth 100000 in
theorem barscanlaw47_word.calls (a0 : Int) (r : Bool) (w : World) (h : barscanlaw47_word.f a0 = some r) :
    Calls Try.prog 8 #[.int .u8 a0] w fun e w' => e = .returned (.bool r) ∧ Drawn0 w w' := by
  have H : (if a0 ≥ 48 then (if a0 ≤ 57 then (some true) else (if a0 ≥ 65 then (some (decide (a0 ≤ 90))) else (some false))) else (if a0 ≥ 65 then (some (decide (a0 ≤ 90))) else (some false))) = some r := h
  clear h
  by_cases c2 : a0 ≥ 48
  · rw [if_pos c2] at H
    have c2b0 : decide (48 ≤ a0) = true := decide_eq_true c2
    clear c2
    by_cases c3 : a0 ≤ 57
    · rw [if_pos c3] at H
      have c3b0 : decide (a0 ≤ 57) = true := decide_eq_true c3
      clear c3
      obtain rfl := Option.some.inj H
      go_enter Try.func8, Try.ntmps8
      go_wp2
      go_ret
      exact ⟨by first | rfl | (simp; done) | (simp [*]; done), by repeat (first | exact Drawn0.refl _ | apply Drawn0.step)⟩
    · rw [if_neg c3] at H
      have c3b0 : decide (a0 ≤ 57) = false := decide_eq_false c3
      clear c3
      by_cases c4 : a0 ≥ 65
      · rw [if_pos c4] at H
        have c4b0 : decide (65 ≤ a0) = true := decide_eq_true c4
        clear c4
        obtain rfl := Option.some.inj H
        go_enter Try.func8, Try.ntmps8
        go_wp2
        go_ret
        exact ⟨by first | rfl | (simp; done) | (simp [*]; done), by repeat (first | exact Drawn0.refl _ | apply Drawn0.step)⟩
      · rw [if_neg c4] at H
        have c4b0 : decide (65 ≤ a0) = false := decide_eq_false c4
        clear c4
        obtain rfl := Option.some.inj H
        go_enter Try.func8, Try.ntmps8
        go_wp2
        go_ret
        exact ⟨by first | rfl | (simp; done) | (simp [*]; done), by repeat (first | exact Drawn0.refl _ | apply Drawn0.step)⟩
  · rw [if_neg c2] at H
    have c2b0 : decide (48 ≤ a0) = false := decide_eq_false c2
    clear c2
    by_cases c5 : a0 ≥ 65
    · rw [if_pos c5] at H
      have c5b0 : decide (65 ≤ a0) = true := decide_eq_true c5
      clear c5
      obtain rfl := Option.some.inj H
      go_enter Try.func8, Try.ntmps8
      go_wp2
      go_ret
      exact ⟨by first | rfl | (simp; done) | (simp [*]; done), by repeat (first | exact Drawn0.refl _ | apply Drawn0.step)⟩
    · rw [if_neg c5] at H
      have c5b0 : decide (65 ≤ a0) = false := decide_eq_false c5
      clear c5
      obtain rfl := Option.some.inj H
      go_enter Try.func8, Try.ntmps8
      go_wp2
      go_ret
      exact ⟨by first | rfl | (simp; done) | (simp [*]; done), by repeat (first | exact Drawn0.refl _ | apply Drawn0.step)⟩

end Go.Proofs.Ytghfcdgdbdeomaa.PR
