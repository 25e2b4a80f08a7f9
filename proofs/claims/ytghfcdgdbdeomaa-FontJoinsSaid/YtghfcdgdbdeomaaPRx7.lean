-- Written by this session's own program (myprint.py).
import Derived.Test.YtghfcdgdbdeomaaPRx0
import Derived.Test.YtghfcdgdbdeomaaPRx1
import Derived.Test.YtghfcdgdbdeomaaPRx2
import Derived.Test.YtghfcdgdbdeomaaPRx3
import Derived.Test.YtghfcdgdbdeomaaPRx5
import Derived.Test.YtghfcdgdbdeomaaPRx6
namespace Go.Proofs.Ytghfcdgdbdeomaa.PR
open Go.RowKit Go.Proofs.YtghfcdgdbdeomaaW.PrintWords Go.Proofs.YtghfcdgdbdeomaaW.PrintLast Go.Proofs.YtghfcdgdbdeomaaW.PrintMore Go.Proofs.Ytghfcdgdbdeomaa.XWords Go.Proofs.Ytghfcdgdbdeomaa.XShort
attribute [local go_sem] max2_int min2_int max_two min_two max_three min_three max_four min_four   -- for this text's walks alone
set_option linter.unusedVariables false
set_option linter.unusedSimpArgs false

/-! ### font_Width: function 14 -/
def font_Width.f (k : Nat) (a0 : ByteArray) (a1 : Int) : Option (Int × Int) := (font_check.f k a0 a1).bind fun t177 => (if t177 = 0 then (some (wrap64 ((wrap64 ((wrap64 (6 * (a0.size : Int))) - 1)) * a1), 0)) else (some (0, t177)))
theorem font_Width.mono : ∀ a0 a1 k, LeO (font_Width.f k a0 a1) (font_Width.f (k + 1) a0 a1) := by
 intro a0 a1 k
 unfold font_Width.f
 repeat' first
   | (with_reducible exact font_check.mono _ _ _)
   | (with_reducible exact LeO.refl _)
   | (with_reducible exact LeO.none _)
   | (with_reducible refine LeO.ite ?_ ?_)
   | (with_reducible refine LeO.bind ?_ (fun _ => ?_))
   | exact font_check.mono _ _ _
   | exact LeO.none _
   | refine LeO.ite ?_ ?_
   | refine LeO.bind ?_ (fun _ => ?_)
set_option maxHeartbeats 8000000 in
set_option maxRecDepth 100000 in
theorem font_Width.calls (k : Nat) (a0 : ByteArray) (a1 : Int) (r1 : Int) (r2 : Int) (w : World) (h : font_Width.f k a0 a1 = some (r1, r2)) :
  Calls Try.prog 14 #[.string a0, .int .i64 a1] w fun e w' => e = .returned (.tuple #[.int .i64 r1, .int .i64 r2]) ∧ Below w.heap.size w w' := by
 have HB := Aside0.mk (Below.refl w.heap.size w)
 have H : ((font_check.f k a0 a1).bind fun t177 => (if t177 = 0 then (some (wrap64 ((wrap64 ((wrap64 (6 * (a0.size : Int))) - 1)) * a1), 0)) else (some (0, t177)))) = some (r1, r2) := h
 clear h
 replace H := Option.bind_eq_some_iff.mp H
 obtain ⟨t177, A30, H⟩ := H
 replace H : (if t177 = 0 then (some (wrap64 ((wrap64 ((wrap64 (6 * (a0.size : Int))) - 1)) * a1), 0)) else (some (0, t177))) = some (r1, r2) := H
 have A3 := Aside0.mk A30
 clear A30
 by_cases c4 : t177 = 0
 ·rw [if_pos c4] at H
  have c4b0 : (t177 == 0) = true := beq_iff_eq.mpr c4
  have c4b1 : (t177 != 0) = false := bne_eq_false_iff_eq.mpr c4
  clear c4
  simp only [Option.some.injEq, Prod.mk.injEq] at H
  obtain ⟨rfl, rfl⟩ := H
  go_enter Try.func14, Try.ntmps14
  go_wp2_with (first | ((with_reducible refine gate_callee (f := 27) rfl ?_); refine goesL_ (some 9) rfl rfl Try.func27 (by kernel_rfl) rfl #[.string a0, .int .i64 a1] rfl mapx ?_; (with_reducible refine (font_check.calls k a0 a1 t177 _ A3.out).mono ?_); rintro e w5 ⟨rfl, hb⟩; refine ⟨_, rfl, ?_⟩; have n0_ := Aside0.mk (below_step (hb0 HB) hb); clear HB; have HB := n0_; clear n0_; (try clear hb); (try clear hb2); (try clear hk); (try clear hi)))
  go_ret2
  exact ⟨by first | rfl | (simp [errW_none, errW_some] <;> rfl) | (simp [*, errW_none, errW_some] <;> rfl), by repeat (first | (with_reducible first | exact HB.out | apply below_alloc | apply pw_below_drewN | apply below_drew1) | exact HB.out)⟩
 ·rw [if_neg c4] at H
  have c4b0 : (t177 == 0) = false := beq_eq_false_iff_ne.mpr c4
  have c4b1 : (t177 != 0) = true := bne_iff_ne.mpr c4
  simp only [Option.some.injEq, Prod.mk.injEq] at H
  obtain ⟨rfl, rfl⟩ := H
  go_enter Try.func14, Try.ntmps14
  go_wp2_with (first | ((with_reducible refine gate_callee (f := 27) rfl ?_); refine goesL_ (some 9) rfl rfl Try.func27 (by kernel_rfl) rfl #[.string a0, .int .i64 a1] rfl mapx ?_; (with_reducible refine (font_check.calls k a0 a1 t177 _ A3.out).mono ?_); rintro e w6 ⟨rfl, hb⟩; refine ⟨_, rfl, ?_⟩; have n0_ := Aside0.mk (below_step (hb0 HB) hb); clear HB; have HB := n0_; clear n0_; (try clear hb); (try clear hb2); (try clear hk); (try clear hi)))
  go_ret2
  exact ⟨by first | rfl | (simp [errW_none, errW_some] <;> rfl) | (simp [*, errW_none, errW_some] <;> rfl), by repeat (first | (with_reducible first | exact HB.out | apply below_alloc | apply pw_below_drewN | apply below_drew1) | exact HB.out)⟩

/-! ### font_Chars: function 21 -/
def font_Chars.l0 : Nat → List Int → List (S44) → Int → Int → Option (List Int)
 | 0, _, _, _, _ => none
 | k + 1, x1, x4, x5, x6 => if x6 < x5 then (if 0 ≤ x6 then (if x6 < (x4.length : Int) then (if x1.length < 140737488355328 then (font_Chars.l0 k (x1 ++ [(rd_T44 x4 x6).f0]) x4 x5 (wrap64 (x6 + 1))) else (none)) else (none)) else (none)) else (some x1)
def font_Chars.f (k : Nat)  : Option (List Int) := (font_table.f).bind fun t178 => (font_Chars.l0 k ([] : List Int) t178 (t178.length : Int) 0)
theorem font_Chars.mono_l : ∀ k, (∀ y0 y1 y2 y3, LeO (font_Chars.l0 k y0 y1 y2 y3) (font_Chars.l0 (k + 1) y0 y1 y2 y3))
 | 0 => fun _ _ _ _ r h => by simp [font_Chars.l0] at h
 | k + 1 => by
  have ih0 := font_Chars.mono_l k
  ·intro y0 y1 y2 y3
   unfold font_Chars.l0
   repeat' first
   | (with_reducible exact ih0 _ _ _ _)
   | (with_reducible exact LeO.refl _)
   | (with_reducible exact LeO.none _)
   | (with_reducible refine LeO.ite ?_ ?_)
   | (with_reducible refine LeO.bind ?_ (fun _ => ?_))
   | exact ih0 _ _ _ _
   | exact LeO.none _
   | refine LeO.ite ?_ ?_
   | refine LeO.bind ?_ (fun _ => ?_)
theorem font_Chars.mono : ∀ k, LeO (font_Chars.f k ) (font_Chars.f (k + 1) ) := by
 intro  k
 have ih0 := font_Chars.mono_l k
 unfold font_Chars.f
 repeat' first
   | (with_reducible exact ih0 _ _ _ _)
   | (with_reducible exact LeO.refl _)
   | (with_reducible exact LeO.none _)
   | (with_reducible refine LeO.ite ?_ ?_)
   | (with_reducible refine LeO.bind ?_ (fun _ => ?_))
   | exact ih0 _ _ _ _
   | exact LeO.none _
   | refine LeO.ite ?_ ?_
   | refine LeO.bind ?_ (fun _ => ?_)
set_option maxHeartbeats 8000000 in
set_option maxRecDepth 100000 in
theorem font_Chars.calls (k : Nat)  (r : List Int) (w : World) (h : font_Chars.f k  = some r) :
  Calls Try.prog 21 #[] w fun e w' => ∃ v0_ : Value, e = .returned (v0_) ∧ Kd.R (Kd.int .u8) 5 w' w.heap.size (fun _ => True) v0_ r ∧ Below w.heap.size w w' := by
 have hu44 := Try.underlying44
 have HB := Aside0.mk (Below.refl w.heap.size w)
 have H : ((font_table.f).bind fun t178 => (font_Chars.l0 k ([] : List Int) t178 (t178.length : Int) 0)) = some r := h
 clear h
 replace H := Option.bind_eq_some_iff.mp H
 obtain ⟨t178, A10, H⟩ := H
 replace H : (font_Chars.l0 k ([] : List Int) t178 (t178.length : Int) 0) = some r := H
 have A1 := Aside0.mk A10
 clear A10
 have H' := Aside0.mk H
 clear H
 go_enter Try.func21, Try.ntmps21
 go_wp2_with (first | ((with_reducible refine gate_callee (f := 26) rfl ?_); refine goesL_ (some 4) rfl rfl Try.func26 (by kernel_rfl) rfl #[] rfl mapx ?_; (with_reducible refine (font_table.calls  t178 _ A1.out).mono ?_); rintro e w2 ⟨v179, rfl, ho0, hb⟩; refine ⟨_, rfl, ?_⟩; have n0_ := Aside0.mk (Kd.R_lower ho0 (below_size (hb0 HB))); have n1_ := Aside0.mk (below_step (hb0 HB) hb); clear HB; have HO180 := n0_; have HB := n1_; clear n0_ n1_; (try clear hb); (try clear hb2); (try clear hk); (try clear hi); (try clear ho0); obtain ⟨Ao3, co3, eo3⟩ := Kd.R_slice HO180.out; subst eo3))
 go_loopg [1, 6] k (fun kq v1 v6 w' => ∃ (x1_1 : List Int) (x6_1 : Int), v6 = .int .i64 x6_1 ∧ Aside0 (font_Chars.l0 kq x1_1 t178 (t178.length : Int) x6_1 = some r) ∧ Aside0 (kq ≤ k) ∧ Aside0 (Kd.R (Kd.int .u8) 5 w' w.heap.size (fun _ => True) v1 x1_1) ∧ Aside0 (Kd.R k44 44 w' w.heap.size (fun _ => True) (.slice Ao3 t178.length co3) t178) ∧ Aside0 (Below w.heap.size w w'))
 case atStart => exact ⟨(([] : List Int)), (0), (by first | rfl | (simp; done) | (simp [*]; done)), H', ⟨Nat.le_refl _⟩, ⟨by first | exact Kd.R_nil _ _ _ _ _ | exact Kd.N_nil _ _ _ _ _ | exact Kd.V_nil _ _ _ _ _ | exact Kd.Q_nil _ _ _ _ _ | exact Kd.S_nil _ _ _ _ _⟩, ⟨rkx HO180⟩, ⟨hb0 HB⟩⟩
 case round =>
  clear H'
  try clear c2
  try clear p2
  obtain ⟨x1_1, x6_1, rfl, HA, HK1, HO_1, HO_4, HB⟩ := hrel
  cases gk with
  | zero => exact absurd HA.out (by simp [font_Chars.l0])
  | succ k1 =>
   have H := HA.out
   clear HA
   simp only [font_Chars.l0] at H
   by_cases c4 : x6_1 < (t178.length : Int)
   ·rw [if_pos c4] at H
    have c4b0 : decide (x6_1 < (t178.length : Int)) = true := decide_eq_true c4
    clear c4
    by_cases c5 : 0 ≤ x6_1
    ·rw [if_pos c5] at H
     have c5b0 : decide (0 ≤ x6_1) = true := decide_eq_true c5
     clear c5
     by_cases c6 : x6_1 < (t178.length : Int)
     ·rw [if_pos c6] at H
      have c6b0 : decide (x6_1 < (t178.length : Int)) = true := decide_eq_true c6
      clear c6
      by_cases c7 : x1_1.length < 140737488355328
      ·rw [if_pos c7] at H
       have LMc7 := Aside0.mk c7
       clear c7
       obtain ⟨y183, hy183⟩ : ∃ y_ : List Int, y_ = (x1_1 ++ [(rd_T44 t178 x6_1).f0]) := ⟨_, rfl⟩
       replace H : (font_Chars.l0 k1 y183 t178 (t178.length : Int) (wrap64 (x6_1 + 1))) = some r := by first | (rw [hy183]; with_reducible exact H) | (have H2_ := (Option.bind_some _ _).symm.trans H; rw [hy183]; with_reducible exact H2_) | (have H2_ := (Option.bind_some _ _).symm.trans H; with_reducible exact H2_) | with_reducible exact H | (rw [hy183]; exact H) | exact H
       have Ny183 := Aside0.mk hy183
       clear hy183
       have H' := Aside0.mk H
       clear H
       have p181 : 0 ≤ (x6_1 : Int) := of_decide_eq_true (by first | (with_reducible assumption) | assumption)
       have q181 : x6_1 < (t178.length : Int) := of_decide_eq_true (by first | (with_reducible assumption) | assumption)
       obtain ⟨ad181, e181, hx181_0, hx181_1⟩ := at_T44 (Kd.R_reads' HO_4.out).2.2 x6_1 p181 q181
       cases e181
       replace p181 := eq_true p181
       replace q181 := eq_true q181
       go_wp2_with (first | ((with_reducible refine gate_dst (N := 3) rfl ?_); refine box_event ?hg (N := 3) ?hd (cs := #[.int .u8 0, .string (⟨#[]⟩ : ByteArray)]) (t := 44) ?hr ?_; (case hd => rfl); (case hg => rfl); (case hr => first | (go_simp; done) | (go_simp; rfl)); intro gb182 hg w8 hbox hb; have n0_ := Aside0.mk (Kd.R_below (rkx HO_1) hb); have n1_ := Aside0.mk (Kd.R_below (Kd.R_elderB (rkx HO_4) gb182 (Nat.le_of_eq hg.symm)) hb); have n2_ := Aside0.mk (below_step (hb0 HB) hb); have n3_ := Aside0.mk (hbox); have n4_ := Aside0.mk ((by rw [hg]; exact (below_size (hb0 HB)) : w.heap.size ≤ gb182)); have n5_ := Aside0.mk ((by rw [hg]; exact (below_size (hb0 HB)) : w.heap.size ≤ gb182)); clear HO_1; clear HO_4; clear HB; have HO_1 := n0_; have HO_4 := n1_; have HB := n2_; have BK182 := n3_; have GW182 := n4_; have GE182 := n5_; clear n0_ n1_ n2_ n3_ n4_ n5_; clear hb hbox hg; have hcz9_0 : w8.cell? ⟨gb182, 0, none⟩ = some (.int .u8 0) := (blk_cell BK182.out 0).trans rfl; have hcz9_1 : w8.cell? ⟨gb182, 1, none⟩ = some (.string (⟨#[]⟩ : ByteArray)) := (blk_cell BK182.out 1).trans rfl; have hfz9_0 := blk_frozen BK182.out 0; have hfz9_1 := blk_frozen BK182.out 1) | ((with_reducible refine gate_builtin (b := .append) (xs := #[.tmp 10, .tmp 13]) rfl ?_); at_builtin; refine Kd.R_append (Kd.int .u8) (w0 := w) w.heap.size rfl (.tmp 10) (.tmp 13) 41 5 (.int .u8 0) 1 rfl Try.underlying41 info5 rfl (by decide) (by omega) u1 x1_1 ((rd_T44 t178 x6_1).f0) [.int .u8 ((rd_T44 t178 x6_1).f0)] (fun _ => True) (fun _ => False) rfl (by first | (go_simp; done) | (go_simp; rfl)) ?aP (fun _ hk => hk.elim) ?aF ?aO ?aB ?aS ?aL ?_; (case aP => exact rfl); (case aB => exact (hb1 HB GE182)); (case aF => exact (fun _ _ => trivial)); (case aO => exact (by refine rkt ?_; exact Kd.R_mono (Kd.R_far (p := ⟨gb182, 1, none⟩) (Kd.R_far (p := ⟨gb182, 0, none⟩) (Kd.R_types HO_1.out BK182.out (by decide)) (fun _ hk => hk.2) (.int .u8 ((rd_T44 t178 x6_1).f0))) (fun _ hk => hk.2) (.string ((rd_T44 t178 x6_1).f1))) (fun _ hk => trivial))); (case aS => exact (below_size (hb1 HB GE182))); (case aL => have := LMc7.out; omega); intro v184 w10 ho hb hg hat; rw [← Ny183.out] at ho; have n0_ := Aside0.mk (Kd.R_over' (by refine rkt ?_; exact (Kd.R_mono (Kd.R_far (p := ⟨gb182, 1, none⟩) (Kd.R_far (p := ⟨gb182, 0, none⟩) (Kd.R_mono HO_4.out (fun k_ hk => (⟨hk, hk.2⟩ : _ ∧ k_ ≠ gb182))) (fun _ hk => hk.2) (.int .u8 ((rd_T44 t178 x6_1).f0))) (fun _ hk => hk.2) (.string ((rd_T44 t178 x6_1).f1))) (fun _ h_ => h_.1))) (Kd.R_typed (by refine rkt ?_; exact (Kd.R_mono (Kd.R_far (p := ⟨gb182, 1, none⟩) (Kd.R_far (p := ⟨gb182, 0, none⟩) (Kd.R_types HO_1.out BK182.out (by decide)) (fun _ hk => hk.2) (.int .u8 ((rd_T44 t178 x6_1).f0))) (fun _ hk => hk.2) (.string ((rd_T44 t178 x6_1).f1))) (fun _ h_ => h_.1)))) (by decide) hg); have n1_ := Aside0.mk (blk_grown (g := gb182) (o := .cells #[.int .u8 ((rd_T44 t178 x6_1).f0), .string ((rd_T44 t178 x6_1).f1)] 44 (0, 0)) (by refine bkt ?_; refine blk_put (cs := #[.int .u8 ((rd_T44 t178 x6_1).f0), .string (⟨#[]⟩ : ByteArray)]) ?_ 1 _ rfl; refine bkt ?_; refine blk_put (cs := #[.int .u8 0, .string (⟨#[]⟩ : ByteArray)]) ?_ 0 _ rfl; refine bkt ?_; exact BK182.out) hg (Kd.R_ne HO_1.out BK182.out (by decide))); have n2_ := Aside0.mk (hb); have n3_ := Aside0.mk (ho); clear HO_4; clear BK182; clear HB; clear HO_1; have HO_4 := n0_; have BK182 := n1_; have HB := n2_; have HO185 := n3_; clear n0_ n1_ n2_ n3_; clear ho hb hg hat))
       go_roundg k1
       case measure => have := HK1.out; omega
       case rel => exact ⟨(y183), (wrap64 (x6_1 + 1)), (by first | rfl | (simp; done) | (simp [*]; done)), H', ⟨by have := HK1.out; omega⟩, ⟨rkx HO185⟩, ⟨by refine rkt ?_; exact Kd.R_mono HO_4.out (fun _ hk => trivial)⟩, ⟨hb1 HB GE182⟩⟩
      ·rw [if_neg c7] at H
       exact absurd H (by simp)
     ·rw [if_neg c6] at H
      exact absurd H (by simp)
    ·rw [if_neg c5] at H
     exact absurd H (by simp)
   ·rw [if_neg c4] at H
    have c4b0 : decide (x6_1 < (t178.length : Int)) = false := decide_eq_false c4
    clear c4
    obtain rfl := Option.some.inj H
    go_wp2
    go_ret
    exact ⟨_, by first | rfl | (simp [errW_none, errW_some] <;> rfl) | (simp [*, errW_none, errW_some] <;> rfl), by refine rkt ?_; exact HO_1.out, by repeat (first | (with_reducible first | exact HB.out | apply below_alloc | apply pw_below_drewN | apply below_drew1) | exact HB.out)⟩

/-! ### barscanlaw47_examples: function 9 -/
def barscanlaw47_examples.l0 : Nat → Int → Int → List Bool → ByteArray → Int → Option (Bool)
 | 0, _, _, _, _, _ => none
 | k + 1, x195000, x195001, x195002, x207000, x207001 => if 0 ≤ x207001 then (if x207001 < (x207000.size : Int) then (if x207001 < (x195002.length : Int) then (if ((rdOf false x195002 x207001) != ((XIter.rn x207000 x207001) == 49)) = true then (none) else (barscanlaw47_examples.l0 k x195000 x195001 x195002 x207000 (XIter.nx x207000 x207001))) else (none)) else ((font_Chars.f k).bind fun t208 => (some ((t208.length : Int) == 62)))) else (none)
def barscanlaw47_examples.f (k : Nat)  : Option (Bool) := (font_Width.f k (⟨#[65, 66]⟩ : ByteArray) 2).bind fun bt186 => ((font_Draw.f k (⟨#[65, 66]⟩ : ByteArray) 1).bind fun bt188 => ((font_Distance.f k 79 48).bind fun bt195 => ((font_Distance.f k 41 62).bind fun bt197 => ((font_Glyph.f k 97).bind fun bt199 => (if bt186.2 = 0 then (if bt188.2.2.2 = 0 then (if bt195.2 = 0 then (if bt197.2 = 0 then (if bt199.2.2.2 = 6 then (if bt186.1 = 22 then (if bt188.1 = 11 then (if bt188.2.1 = 7 then (if (bt188.2.2.1.length : Int) = 77 then (if bt195.1 = 5 then (if bt197.1 = 2 then (barscanlaw47_examples.l0 k bt188.1 bt188.2.1 bt188.2.2.1 (⟨#[48, 49, 49, 49, 48, 48, 49, 49, 49, 49, 48]⟩ : ByteArray) 0) else (none)) else (none)) else (none)) else (none)) else (none)) else (none)) else (none)) else (none)) else (none)) else (none)) else (none))))))
theorem barscanlaw47_examples.mono_l : ∀ k, (∀ y0 y1 y2 y3 y4, LeO (barscanlaw47_examples.l0 k y0 y1 y2 y3 y4) (barscanlaw47_examples.l0 (k + 1) y0 y1 y2 y3 y4))
 | 0 => fun _ _ _ _ _ r h => by simp [barscanlaw47_examples.l0] at h
 | k + 1 => by
  have ih0 := barscanlaw47_examples.mono_l k
  ·intro y0 y1 y2 y3 y4
   unfold barscanlaw47_examples.l0
   repeat' first
   | (with_reducible exact ih0 _ _ _ _ _)
   | (with_reducible exact font_Chars.mono _)
   | (with_reducible exact font_Distance.mono _ _ _)
   | (with_reducible exact font_Draw.mono _ _ _)
   | (with_reducible exact font_Glyph.mono _ _)
   | (with_reducible exact font_Width.mono _ _ _)
   | (with_reducible exact LeO.refl _)
   | (with_reducible exact LeO.none _)
   | (with_reducible refine LeO.ite ?_ ?_)
   | (with_reducible refine LeO.bind ?_ (fun _ => ?_))
   | exact ih0 _ _ _ _ _
   | exact font_Chars.mono _
   | exact font_Distance.mono _ _ _
   | exact font_Draw.mono _ _ _
   | exact font_Glyph.mono _ _
   | exact font_Width.mono _ _ _
   | exact LeO.none _
   | refine LeO.ite ?_ ?_
   | refine LeO.bind ?_ (fun _ => ?_)
theorem barscanlaw47_examples.mono : ∀ k, LeO (barscanlaw47_examples.f k ) (barscanlaw47_examples.f (k + 1) ) := by
 intro  k
 have ih0 := barscanlaw47_examples.mono_l k
 unfold barscanlaw47_examples.f
 repeat' first
   | (with_reducible exact ih0 _ _ _ _ _)
   | (with_reducible exact font_Chars.mono _)
   | (with_reducible exact font_Distance.mono _ _ _)
   | (with_reducible exact font_Draw.mono _ _ _)
   | (with_reducible exact font_Glyph.mono _ _)
   | (with_reducible exact font_Width.mono _ _ _)
   | (with_reducible exact LeO.refl _)
   | (with_reducible exact LeO.none _)
   | (with_reducible refine LeO.ite ?_ ?_)
   | (with_reducible refine LeO.bind ?_ (fun _ => ?_))
   | exact ih0 _ _ _ _ _
   | exact font_Chars.mono _
   | exact font_Distance.mono _ _ _
   | exact font_Draw.mono _ _ _
   | exact font_Glyph.mono _ _
   | exact font_Width.mono _ _ _
   | exact LeO.none _
   | refine LeO.ite ?_ ?_
   | refine LeO.bind ?_ (fun _ => ?_)
set_option maxHeartbeats 8000000 in
set_option maxRecDepth 100000 in
theorem barscanlaw47_examples.calls (k : Nat)  (r : Bool) (w : World) (h : barscanlaw47_examples.f k  = some r) :
  Calls Try.prog 9 #[] w fun e w' => e = .returned (.bool r) ∧ Below w.heap.size w w' := by
 have hu24 := Try.underlying24
 have HB := Aside0.mk (Below.refl w.heap.size w)
 have H : ((font_Width.f k (⟨#[65, 66]⟩ : ByteArray) 2).bind fun bt186 => ((font_Draw.f k (⟨#[65, 66]⟩ : ByteArray) 1).bind fun bt188 => ((font_Distance.f k 79 48).bind fun bt195 => ((font_Distance.f k 41 62).bind fun bt197 => ((font_Glyph.f k 97).bind fun bt199 => (if bt186.2 = 0 then (if bt188.2.2.2 = 0 then (if bt195.2 = 0 then (if bt197.2 = 0 then (if bt199.2.2.2 = 6 then (if bt186.1 = 22 then (if bt188.1 = 11 then (if bt188.2.1 = 7 then (if (bt188.2.2.1.length : Int) = 77 then (if bt195.1 = 5 then (if bt197.1 = 2 then (barscanlaw47_examples.l0 k bt188.1 bt188.2.1 bt188.2.2.1 (⟨#[48, 49, 49, 49, 48, 48, 49, 49, 49, 49, 48]⟩ : ByteArray) 0) else (none)) else (none)) else (none)) else (none)) else (none)) else (none)) else (none)) else (none)) else (none)) else (none)) else (none))))))) = some r := h
 clear h
 replace H := Option.bind_eq_some_iff.mp H
 obtain ⟨⟨t186, t187⟩, A10, H⟩ := H
 replace H : ((font_Draw.f k (⟨#[65, 66]⟩ : ByteArray) 1).bind fun bt188 => ((font_Distance.f k 79 48).bind fun bt195 => ((font_Distance.f k 41 62).bind fun bt197 => ((font_Glyph.f k 97).bind fun bt199 => (if t187 = 0 then (if bt188.2.2.2 = 0 then (if bt195.2 = 0 then (if bt197.2 = 0 then (if bt199.2.2.2 = 6 then (if t186 = 22 then (if bt188.1 = 11 then (if bt188.2.1 = 7 then (if (bt188.2.2.1.length : Int) = 77 then (if bt195.1 = 5 then (if bt197.1 = 2 then (barscanlaw47_examples.l0 k bt188.1 bt188.2.1 bt188.2.2.1 (⟨#[48, 49, 49, 49, 48, 48, 49, 49, 49, 49, 48]⟩ : ByteArray) 0) else (none)) else (none)) else (none)) else (none)) else (none)) else (none)) else (none)) else (none)) else (none)) else (none)) else (none)))))) = some r := H
 have A1 := Aside0.mk A10
 clear A10
 replace H := Option.bind_eq_some_iff.mp H
 obtain ⟨⟨t188, t189, t190, t193⟩, A20, H⟩ := H
 replace H : ((font_Distance.f k 79 48).bind fun bt195 => ((font_Distance.f k 41 62).bind fun bt197 => ((font_Glyph.f k 97).bind fun bt199 => (if t187 = 0 then (if t193 = 0 then (if bt195.2 = 0 then (if bt197.2 = 0 then (if bt199.2.2.2 = 6 then (if t186 = 22 then (if t188 = 11 then (if t189 = 7 then (if (t190.length : Int) = 77 then (if bt195.1 = 5 then (if bt197.1 = 2 then (barscanlaw47_examples.l0 k t188 t189 t190 (⟨#[48, 49, 49, 49, 48, 48, 49, 49, 49, 49, 48]⟩ : ByteArray) 0) else (none)) else (none)) else (none)) else (none)) else (none)) else (none)) else (none)) else (none)) else (none)) else (none)) else (none))))) = some r := H
 have A2 := Aside0.mk A20
 clear A20
 replace H := Option.bind_eq_some_iff.mp H
 obtain ⟨⟨t195, t196⟩, A30, H⟩ := H
 replace H : ((font_Distance.f k 41 62).bind fun bt197 => ((font_Glyph.f k 97).bind fun bt199 => (if t187 = 0 then (if t193 = 0 then (if t196 = 0 then (if bt197.2 = 0 then (if bt199.2.2.2 = 6 then (if t186 = 22 then (if t188 = 11 then (if t189 = 7 then (if (t190.length : Int) = 77 then (if t195 = 5 then (if bt197.1 = 2 then (barscanlaw47_examples.l0 k t188 t189 t190 (⟨#[48, 49, 49, 49, 48, 48, 49, 49, 49, 49, 48]⟩ : ByteArray) 0) else (none)) else (none)) else (none)) else (none)) else (none)) else (none)) else (none)) else (none)) else (none)) else (none)) else (none)))) = some r := H
 have A3 := Aside0.mk A30
 clear A30
 replace H := Option.bind_eq_some_iff.mp H
 obtain ⟨⟨t197, t198⟩, A40, H⟩ := H
 replace H : ((font_Glyph.f k 97).bind fun bt199 => (if t187 = 0 then (if t193 = 0 then (if t196 = 0 then (if t198 = 0 then (if bt199.2.2.2 = 6 then (if t186 = 22 then (if t188 = 11 then (if t189 = 7 then (if (t190.length : Int) = 77 then (if t195 = 5 then (if t197 = 2 then (barscanlaw47_examples.l0 k t188 t189 t190 (⟨#[48, 49, 49, 49, 48, 48, 49, 49, 49, 49, 48]⟩ : ByteArray) 0) else (none)) else (none)) else (none)) else (none)) else (none)) else (none)) else (none)) else (none)) else (none)) else (none)) else (none))) = some r := H
 have A4 := Aside0.mk A40
 clear A40
 replace H := Option.bind_eq_some_iff.mp H
 obtain ⟨⟨t199, t200, t201, t204⟩, A50, H⟩ := H
 replace H : (if t187 = 0 then (if t193 = 0 then (if t196 = 0 then (if t198 = 0 then (if t204 = 6 then (if t186 = 22 then (if t188 = 11 then (if t189 = 7 then (if (t190.length : Int) = 77 then (if t195 = 5 then (if t197 = 2 then (barscanlaw47_examples.l0 k t188 t189 t190 (⟨#[48, 49, 49, 49, 48, 48, 49, 49, 49, 49, 48]⟩ : ByteArray) 0) else (none)) else (none)) else (none)) else (none)) else (none)) else (none)) else (none)) else (none)) else (none)) else (none)) else (none)) = some r := H
 have A5 := Aside0.mk A50
 clear A50
 by_cases c6 : t187 = 0
 ·rw [if_pos c6] at H
  have c6b0 : (t187 == 0) = true := beq_iff_eq.mpr c6
  have c6b1 : (t187 != 0) = false := bne_eq_false_iff_eq.mpr c6
  clear c6
  by_cases c7 : t193 = 0
  ·rw [if_pos c7] at H
   have c7b0 : (t193 == 0) = true := beq_iff_eq.mpr c7
   have c7b1 : (t193 != 0) = false := bne_eq_false_iff_eq.mpr c7
   clear c7
   by_cases c8 : t196 = 0
   ·rw [if_pos c8] at H
    have c8b0 : (t196 == 0) = true := beq_iff_eq.mpr c8
    have c8b1 : (t196 != 0) = false := bne_eq_false_iff_eq.mpr c8
    clear c8
    by_cases c9 : t198 = 0
    ·rw [if_pos c9] at H
     have c9b0 : (t198 == 0) = true := beq_iff_eq.mpr c9
     have c9b1 : (t198 != 0) = false := bne_eq_false_iff_eq.mpr c9
     clear c9
     by_cases c10 : t204 = 6
     ·rw [if_pos c10] at H
      have c10b0 : (t204 == 6) = true := beq_iff_eq.mpr c10
      have c10b1 : (t204 != 6) = false := bne_eq_false_iff_eq.mpr c10
      clear c10
      by_cases c11 : t186 = 22
      ·rw [if_pos c11] at H
       have c11b0 : (t186 == 22) = true := beq_iff_eq.mpr c11
       have c11b1 : (t186 != 22) = false := bne_eq_false_iff_eq.mpr c11
       clear c11
       by_cases c12 : t188 = 11
       ·rw [if_pos c12] at H
        have c12b0 : (t188 == 11) = true := beq_iff_eq.mpr c12
        have c12b1 : (t188 != 11) = false := bne_eq_false_iff_eq.mpr c12
        clear c12
        by_cases c13 : t189 = 7
        ·rw [if_pos c13] at H
         have c13b0 : (t189 == 7) = true := beq_iff_eq.mpr c13
         have c13b1 : (t189 != 7) = false := bne_eq_false_iff_eq.mpr c13
         clear c13
         by_cases c14 : (t190.length : Int) = 77
         ·rw [if_pos c14] at H
          have c14b0 : ((t190.length : Int) == 77) = true := beq_iff_eq.mpr c14
          have c14b1 : ((t190.length : Int) != 77) = false := bne_eq_false_iff_eq.mpr c14
          clear c14
          by_cases c15 : t195 = 5
          ·rw [if_pos c15] at H
           have c15b0 : (t195 == 5) = true := beq_iff_eq.mpr c15
           have c15b1 : (t195 != 5) = false := bne_eq_false_iff_eq.mpr c15
           clear c15
           by_cases c16 : t197 = 2
           ·rw [if_pos c16] at H
            have c16b0 : (t197 == 2) = true := beq_iff_eq.mpr c16
            have c16b1 : (t197 != 2) = false := bne_eq_false_iff_eq.mpr c16
            clear c16
            have H' := Aside0.mk H
            clear H
            go_enter Try.func9, Try.ntmps9
            go_wp2_with (first | ((with_reducible refine gate_callee (f := 14) rfl ?_); refine goesL_ (some 14) rfl rfl Try.func14 (by kernel_rfl) rfl #[.string (⟨#[65, 66]⟩ : ByteArray), .int .i64 2] rfl mapx ?_; (with_reducible refine (font_Width.calls k (⟨#[65, 66]⟩ : ByteArray) 2 t186 t187 _ A1.out).mono ?_); rintro e w17 ⟨rfl, hb⟩; refine ⟨_, rfl, ?_⟩; have n0_ := Aside0.mk (below_step (hb0 HB) hb); clear HB; have HB := n0_; clear n0_; (try clear hb); (try clear hb2); (try clear hk); (try clear hi)) | ((with_reducible refine gate_callee (f := 12) rfl ?_); refine goesL_ (some 18) rfl rfl Try.func12 (by kernel_rfl) rfl #[.string (⟨#[65, 66]⟩ : ByteArray), .int .i64 1] rfl mapx ?_; (with_reducible refine (font_Draw.calls k (⟨#[65, 66]⟩ : ByteArray) 1 t188 t189 t190 t193 _ A2.out).mono ?_); rintro e w18 ⟨v191, rfl, ho0, hb⟩; refine ⟨_, rfl, ?_⟩; have n0_ := Aside0.mk (Kd.R_lower ho0 (below_size (hb0 HB))); have n1_ := Aside0.mk (below_step (hb0 HB) hb); clear HB; have HO192 := n0_; have HB := n1_; clear n0_ n1_; (try clear hb); (try clear hb2); (try clear hk); (try clear hi); (try clear ho0)) | ((with_reducible refine gate_dst (N := 3) rfl ?_); (try (refine gate_guard (by rfl) ?_; dsimp only)); refine box_event ?hg (N := 3) ?hd (cs := #[.int .i64 0, .int .i64 0, .slice none 0 0]) (t := 24) ?hr ?_; (case hd => rfl); (case hg => rfl); (case hr => first | (go_simp; done) | (go_simp; rfl)); intro gb194 hg w19 hbox hb; have n0_ := Aside0.mk (Kd.R_below (rkx HO192) hb); have n1_ := Aside0.mk (below_step (hb0 HB) hb); have n2_ := Aside0.mk (hbox); have n3_ := Aside0.mk ((by rw [hg]; exact (below_size (hb0 HB)) : w.heap.size ≤ gb194)); have n4_ := Aside0.mk ((by rw [hg]; exact (below_size (hb0 HB)) : w.heap.size ≤ gb194)); clear HO192; clear HB; have HO192 := n0_; have HB := n1_; have BK194 := n2_; have GW194 := n3_; have GE194 := n4_; clear n0_ n1_ n2_ n3_ n4_; clear hb hbox hg; have hcz20_0 : w19.cell? ⟨gb194, 0, none⟩ = some (.int .i64 0) := (blk_cell BK194.out 0).trans rfl; have hcz20_1 : w19.cell? ⟨gb194, 1, none⟩ = some (.int .i64 0) := (blk_cell BK194.out 1).trans rfl; have hcz20_2 : w19.cell? ⟨gb194, 2, none⟩ = some (.slice none 0 0) := (blk_cell BK194.out 2).trans rfl; have hfz20_0 := blk_frozen BK194.out 0; have hfz20_1 := blk_frozen BK194.out 1; have hfz20_2 := blk_frozen BK194.out 2; obtain ⟨Ao21, co21, eo21⟩ := Kd.R_slice HO192.out; subst eo21) | ((with_reducible refine gate_callee (f := 10) rfl ?_); refine goesL_ (some 22) rfl rfl Try.func10 (by kernel_rfl) rfl #[.int .u8 79, .int .u8 48] rfl mapx ?_; (with_reducible refine (font_Distance.calls k 79 48 t195 t196 _ A3.out).mono ?_); rintro e w22 ⟨rfl, hb⟩; refine ⟨_, rfl, ?_⟩; have n0_ := Aside0.mk (Kd.R_below (by refine rkt ?_; exact (far3 HO192 BK194)) hb); have n1_ := Aside0.mk (blk_below (g := gb194) (o := .cells #[.int .i64 t188, .int .i64 t189, .slice Ao21 t190.length co21] 24 (0, 0)) (by refine bkt ?_; refine blk_put (cs := #[.int .i64 t188, .int .i64 t189, .slice none 0 0]) ?_ 2 _ rfl; refine bkt ?_; refine blk_put (cs := #[.int .i64 t188, .int .i64 0, .slice none 0 0]) ?_ 1 _ rfl; refine bkt ?_; refine blk_put (cs := #[.int .i64 0, .int .i64 0, .slice none 0 0]) ?_ 0 _ rfl; refine bkt ?_; exact BK194.out) hb); have n2_ := Aside0.mk (below_step (hb1 HB GE194) hb); clear HO192; clear BK194; clear HB; have HO192 := n0_; have BK194 := n1_; have HB := n2_; clear n0_ n1_ n2_; (try clear hb); (try clear hb2); (try clear hk); (try clear hi)) | ((with_reducible refine gate_callee (f := 10) rfl ?_); refine goesL_ (some 26) rfl rfl Try.func10 (by kernel_rfl) rfl #[.int .u8 41, .int .u8 62] rfl mapx ?_; (with_reducible refine (font_Distance.calls k 41 62 t197 t198 _ A4.out).mono ?_); rintro e w23 ⟨rfl, hb⟩; refine ⟨_, rfl, ?_⟩; have n0_ := Aside0.mk (Kd.R_below (rkx HO192) hb); have n1_ := Aside0.mk (blk_below (bkx BK194) hb); have n2_ := Aside0.mk (below_step (hb1 HB GE194) hb); clear HO192; clear BK194; clear HB; have HO192 := n0_; have BK194 := n1_; have HB := n2_; clear n0_ n1_ n2_; (try clear hb); (try clear hb2); (try clear hk); (try clear hi)) | ((with_reducible refine gate_callee (f := 7) rfl ?_); refine goesL_ (some 30) rfl rfl Try.func7 (by kernel_rfl) rfl #[.int .u8 97] rfl mapx ?_; (with_reducible refine (font_Glyph.calls k 97 t199 t200 t201 t204 _ A5.out).mono ?_); rintro e w24 ⟨v202, rfl, ho0, hb⟩; refine ⟨_, rfl, ?_⟩; have n0_ := Aside0.mk (Kd.R_elder' (rkx HO192) (Kd.R_base ho0) hb); have n1_ := Aside0.mk (Kd.R_lower (Kd.R_new' ho0 (Kd.R_lt (rkx HO192))) (below_size (hb1 HB GE194))); have n2_ := Aside0.mk (blk_below (bkx BK194) hb); have n3_ := Aside0.mk (below_step (hb1 HB GE194) hb); clear HO192; clear BK194; clear HB; have HO192 := n0_; have HO203 := n1_; have BK194 := n2_; have HB := n3_; clear n0_ n1_ n2_ n3_; (try clear hb); (try clear hb2); (try clear hk); (try clear hi); (try clear ho0)) | ((with_reducible refine gate_dst (N := 9) rfl ?_); (try (refine gate_guard (by rfl) ?_; dsimp only)); refine box_event ?hg (N := 9) ?hd (cs := #[.int .i64 0, .int .i64 0, .slice none 0 0]) (t := 24) ?hr ?_; (case hd => rfl); (case hg => rfl); (case hr => first | (go_simp; done) | (go_simp; rfl)); intro gb205 hg w25 hbox hb; have n0_ := Aside0.mk (Kd.R_below (rkx HO192) hb); have n1_ := Aside0.mk (Kd.R_below (rkx HO203) hb); have n2_ := Aside0.mk (blk_below (bkx BK194) hb); have n3_ := Aside0.mk (below_step (hb1 HB GE194) hb); have n4_ := Aside0.mk (hbox); have n5_ := Aside0.mk ((by rw [hg]; exact (below_size (hb1 HB GE194)) : w.heap.size ≤ gb205)); have n6_ := Aside0.mk ((by rw [hg]; exact (below_size (hb1 HB GE194)) : w.heap.size ≤ gb205)); have n7_ := Aside0.mk (nel hg BK194 : gb194 ≠ gb205); have n8_ := Aside0.mk (neg hg BK194 : gb205 ≠ gb194); clear HO192; clear HO203; clear BK194; clear HB; have HO192 := n0_; have HO203 := n1_; have BK194 := n2_; have HB := n3_; have BK205 := n4_; have GW205 := n5_; have GE205 := n6_; have NB194_205 := n7_; have NB205_194 := n8_; clear n0_ n1_ n2_ n3_ n4_ n5_ n6_ n7_ n8_; clear hb hbox hg; have hnb26 := NB205_194.out; have hnc26 := NB194_205.out; have hcz27_0 : w25.cell? ⟨gb205, 0, none⟩ = some (.int .i64 0) := (blk_cell BK205.out 0).trans rfl; have hcz27_1 : w25.cell? ⟨gb205, 1, none⟩ = some (.int .i64 0) := (blk_cell BK205.out 1).trans rfl; have hcz27_2 : w25.cell? ⟨gb205, 2, none⟩ = some (.slice none 0 0) := (blk_cell BK205.out 2).trans rfl; have hfz27_0 := blk_frozen BK205.out 0; have hfz27_1 := blk_frozen BK205.out 1; have hfz27_2 := blk_frozen BK205.out 2; obtain ⟨Ao28, co28, eo28⟩ := Kd.R_slice HO203.out; subst eo28; have hcz29_0 : w25.cell? ⟨gb194, 0, none⟩ = some (.int .i64 t188) := (blk_cell BK194.out 0).trans rfl; have hcz29_1 : w25.cell? ⟨gb194, 1, none⟩ = some (.int .i64 t189) := (blk_cell BK194.out 1).trans rfl; have hcz29_2 : w25.cell? ⟨gb194, 2, none⟩ = some (.slice Ao21 t190.length co21) := (blk_cell BK194.out 2).trans rfl; have hfz29_0 := blk_frozen BK194.out 0; have hfz29_1 := blk_frozen BK194.out 1; have hfz29_2 := blk_frozen BK194.out 2) | ((with_reducible refine gate_dst (N := 79) rfl ?_); (try (refine gate_guard (by rfl) ?_; dsimp only)); refine XIter.iter_event (t := 9) (x := (.const (.string (⟨#[48, 49, 49, 49, 48, 48, 49, 49, 49, 49, 48]⟩ : ByteArray)))) (s := (⟨#[48, 49, 49, 49, 48, 48, 49, 49, 49, 49, 48]⟩ : ByteArray)) (N := 79) ?hg ?hd ?ho ?hu ?hx ?_; (case hg => rfl); (case hd => rfl); (case ho => rfl); (case hu => exact Try.underlying9); (case hx => first | rfl | (go_simp; done) | (go_simp; rfl)); intro gb206 hg w30 hbox hb; have n0_ := Aside0.mk (Kd.R_below (by refine rkt ?_; exact (far3 HO192 BK205)) hb); have n1_ := Aside0.mk (Kd.R_below (by refine rkt ?_; exact (far3 HO203 BK205)) hb); have n2_ := Aside0.mk (blk_below (g := gb194) (o := .cells #[.int .i64 t188, .int .i64 t189, .slice Ao21 t190.length co21] 24 (0, 0)) (bky BK194 NB194_205) hb); have n3_ := Aside0.mk (blk_below (g := gb205) (o := .cells #[.int .i64 t199, .int .i64 t200, .slice Ao28 t201.length co28] 24 (0, 0)) (by refine bkt ?_; refine blk_put (cs := #[.int .i64 t199, .int .i64 t200, .slice none 0 0]) ?_ 2 _ rfl; refine bkt ?_; refine blk_put (cs := #[.int .i64 t199, .int .i64 0, .slice none 0 0]) ?_ 1 _ rfl; refine bkt ?_; refine blk_put (cs := #[.int .i64 0, .int .i64 0, .slice none 0 0]) ?_ 0 _ rfl; refine bkt ?_; exact BK205.out) hb); have n4_ := Aside0.mk (below_step (hb2 HB GE194 GE205) hb); have n5_ := Aside0.mk (hbox); have n6_ := Aside0.mk ((by rw [hg]; exact (below_size (hb2 HB GE194 GE205)) : w.heap.size ≤ gb206)); have n7_ := Aside0.mk ((by rw [hg]; exact (below_size (hb2 HB GE194 GE205)) : w.heap.size ≤ gb206)); have n8_ := Aside0.mk ((by rw [hg]; exact Nat.ne_of_lt (blk_lt (g := gb194) (o := .cells #[.int .i64 t188, .int .i64 t189, .slice Ao21 t190.length co21] 24 (0, 0)) (bky BK194 NB194_205)) : gb194 ≠ gb206)); have n9_ := Aside0.mk ((by rw [hg]; exact Nat.ne_of_gt (blk_lt (g := gb194) (o := .cells #[.int .i64 t188, .int .i64 t189, .slice Ao21 t190.length co21] 24 (0, 0)) (bky BK194 NB194_205)) : gb206 ≠ gb194)); have n10_ := Aside0.mk ((by rw [hg]; exact Nat.ne_of_lt (blk_lt (g := gb205) (o := .cells #[.int .i64 t199, .int .i64 t200, .slice Ao28 t201.length co28] 24 (0, 0)) (by refine bkt ?_; refine blk_put (cs := #[.int .i64 t199, .int .i64 t200, .slice none 0 0]) ?_ 2 _ rfl; refine bkt ?_; refine blk_put (cs := #[.int .i64 t199, .int .i64 0, .slice none 0 0]) ?_ 1 _ rfl; refine bkt ?_; refine blk_put (cs := #[.int .i64 0, .int .i64 0, .slice none 0 0]) ?_ 0 _ rfl; refine bkt ?_; exact BK205.out)) : gb205 ≠ gb206)); have n11_ := Aside0.mk ((by rw [hg]; exact Nat.ne_of_gt (blk_lt (g := gb205) (o := .cells #[.int .i64 t199, .int .i64 t200, .slice Ao28 t201.length co28] 24 (0, 0)) (by refine bkt ?_; refine blk_put (cs := #[.int .i64 t199, .int .i64 t200, .slice none 0 0]) ?_ 2 _ rfl; refine bkt ?_; refine blk_put (cs := #[.int .i64 t199, .int .i64 0, .slice none 0 0]) ?_ 1 _ rfl; refine bkt ?_; refine blk_put (cs := #[.int .i64 0, .int .i64 0, .slice none 0 0]) ?_ 0 _ rfl; refine bkt ?_; exact BK205.out)) : gb206 ≠ gb205)); clear HO192; clear HO203; clear BK194; clear BK205; clear HB; have HO192 := n0_; have HO203 := n1_; have BK194 := n2_; have BK205 := n3_; have HB := n4_; have BK206 := n5_; have GW206 := n6_; have GE206 := n7_; have NB194_206 := n8_; have NB206_194 := n9_; have NB205_206 := n10_; have NB206_205 := n11_; clear n0_ n1_ n2_ n3_ n4_ n5_ n6_ n7_ n8_ n9_ n10_ n11_; clear hb hbox hg; (try simp only [Act.put, List.setIfInBounds_toArray, List.set_cons_zero, List.set_cons_succ])))
            go_loopg [] k (fun kq w' => ∃ (x207001_1 : Int), Aside0 (barscanlaw47_examples.l0 kq t188 t189 t190 (⟨#[48, 49, 49, 49, 48, 48, 49, 49, 49, 49, 48]⟩ : ByteArray) x207001_1 = some r) ∧ Aside0 (kq ≤ k) ∧ Aside0 (Kd.R Kd.bool 4 w' w.heap.size (fun k_ => some k_ ≠ ((.slice Ao28 t201.length co28) : Value).ownBlock) (.slice Ao21 t190.length co21) t190) ∧ Aside0 (Kd.R Kd.bool 4 w' w.heap.size (fun k_ => some k_ ≠ ((.slice Ao21 t190.length co21) : Value).ownBlock) (.slice Ao28 t201.length co28) t201) ∧ Aside0 (w'.heap[gb194]? = some (.cells #[.int .i64 t188, .int .i64 t189, (.slice Ao21 t190.length co21)] 24 (0, 0))) ∧ Aside0 (w'.heap[gb205]? = some (.cells #[.int .i64 t199, .int .i64 t200, (.slice Ao28 t201.length co28)] 24 (0, 0))) ∧ Aside0 (w'.heap[gb206]? = some (.stringIter (⟨#[48, 49, 49, 49, 48, 48, 49, 49, 49, 49, 48]⟩ : ByteArray) (x207001_1 : Int).toNat)) ∧ Aside0 (Below w.heap.size w w'))
            case atStart => exact ⟨(0), H', ⟨Nat.le_refl _⟩, ⟨by refine rkt ?_; exact Kd.R_mono HO192.out (fun _ hk => hk.2)⟩, ⟨by refine rkt ?_; exact Kd.R_mono HO203.out (fun _ hk => hk.2)⟩, ⟨bkx BK194⟩, ⟨bkx BK205⟩, ⟨bkx BK206⟩, ⟨hb3 HB GE194 GE205 GE206⟩⟩
            case round =>
             clear H'
             try clear c1
             try clear c2
             try clear p2
             try clear c6
             try clear c6b0
             try clear c6b1
             try clear c7
             try clear c7b0
             try clear c7b1
             try clear c8
             try clear c8b0
             try clear c8b1
             try clear c9
             try clear c9b0
             try clear c9b1
             try clear c10
             try clear c10b0
             try clear c10b1
             try clear c11
             try clear c11b0
             try clear c11b1
             try clear c12
             try clear c12b0
             try clear c12b1
             try clear c13
             try clear c13b0
             try clear c13b1
             try clear c14
             try clear c14b0
             try clear c14b1
             try clear c15
             try clear c15b0
             try clear c15b1
             try clear c16
             try clear c16b0
             try clear c16b1
             try clear c26
             try clear hcz20_0
             try clear hcz20_1
             try clear hcz20_2
             try clear hcz27_0
             try clear hcz27_1
             try clear hcz27_2
             try clear hcz29_0
             try clear hcz29_1
             try clear hcz29_2
             try clear hfz20_0
             try clear hfz20_1
             try clear hfz20_2
             try clear hfz27_0
             try clear hfz27_1
             try clear hfz27_2
             try clear hfz29_0
             try clear hfz29_1
             try clear hfz29_2
             obtain ⟨x207001_1, HA, HK1, HO_195002, HO_206002, BK194, BK205, BK206, HB⟩ := hrel
             cases gk with
             | zero => exact absurd HA.out (by simp [barscanlaw47_examples.l0])
             | succ k1 =>
              have H := HA.out
              clear HA
              simp only [barscanlaw47_examples.l0] at H
              by_cases c31 : 0 ≤ x207001_1
              ·rw [if_pos c31] at H
               have c31b0 := eq_true c31
               have c31b1 : decide (0 ≤ x207001_1) = true := decide_eq_true c31
               clear c31
               by_cases c32 : x207001_1 < ((⟨#[48, 49, 49, 49, 48, 48, 49, 49, 49, 49, 48]⟩ : ByteArray).size : Int)
               ·rw [if_pos c32] at H
                have c32b0 : decide (x207001_1 < ((⟨#[48, 49, 49, 49, 48, 48, 49, 49, 49, 49, 48]⟩ : ByteArray).size : Int)) = true := decide_eq_true c32
                clear c32
                by_cases c33 : x207001_1 < (t190.length : Int)
                ·rw [if_pos c33] at H
                 have c33b0 : decide (x207001_1 < (t190.length : Int)) = true := decide_eq_true c33
                 clear c33
                 by_cases c34 : ((rdOf false t190 x207001_1) != ((XIter.rn (⟨#[48, 49, 49, 49, 48, 48, 49, 49, 49, 49, 48]⟩ : ByteArray) x207001_1) == 49)) = true
                 ·rw [if_pos c34] at H
                  exact absurd H (by simp)
                 ·rw [if_neg c34] at H
                  have c34b0 : ((rdOf false t190 x207001_1) != ((XIter.rn (⟨#[48, 49, 49, 49, 48, 48, 49, 49, 49, 49, 48]⟩ : ByteArray) x207001_1) == 49)) = false := by simpa using c34
                  (try (have c34b1 : decide ((rdOf false t190 x207001_1) = ((XIter.rn (⟨#[48, 49, 49, 49, 48, 48, 49, 49, 49, 49, 48]⟩ : ByteArray) x207001_1) == 49)) = true := by simpa using c34))
                  (try (have c34b2 : ((rdOf false t190 x207001_1) == ((XIter.rn (⟨#[48, 49, 49, 49, 48, 48, 49, 49, 49, 49, 48]⟩ : ByteArray) x207001_1) == 49)) = true := by simpa using c34))
                  clear c34
                  have H' := Aside0.mk H
                  clear H
                  go_wp2_with (first | ((with_reducible refine gate_dst (N := 80) rfl ?_); (try (refine gate_guard (by rfl) ?_; dsimp only)); refine XIter.next_some (i := .tmp 79) (g := gb206) (s := (⟨#[48, 49, 49, 49, 48, 48, 49, 49, 49, 49, 48]⟩ : ByteArray)) (x := x207001_1) (N := 80) ?hg ?hd ?ho ?hi ?hb ?h0 ?h1 ?_; (case hg => rfl); (case hd => rfl); (case ho => rfl); (case hi => first | rfl | (go_simp; done) | (go_simp; rfl)); (case hb => exact (show _ = some (Obj.stringIter (⟨#[48, 49, 49, 49, 48, 48, 49, 49, 49, 49, 48]⟩ : ByteArray) (x207001_1 : Int).toNat) from by refine bkt ?_; exact BK206.out)); (case h0 => exact of_decide_eq_true (by first | (with_reducible assumption) | assumption)); (case h1 => exact of_decide_eq_true (by first | (with_reducible assumption) | assumption)); intro w35 hs hbox; have n0_ := Aside0.mk (XIter.R_it (rkx HO_195002) (show _ = some (Obj.stringIter (⟨#[48, 49, 49, 49, 48, 48, 49, 49, 49, 49, 48]⟩ : ByteArray) (x207001_1 : Int).toNat) from by refine bkt ?_; exact BK206.out) hs); have n1_ := Aside0.mk (XIter.R_it (rkx HO_206002) (show _ = some (Obj.stringIter (⟨#[48, 49, 49, 49, 48, 48, 49, 49, 49, 49, 48]⟩ : ByteArray) (x207001_1 : Int).toNat) from by refine bkt ?_; exact BK206.out) hs); have n2_ := Aside0.mk (XIter.blk_it (show _ = some (Obj.cells #[.int .i64 t188, .int .i64 t189, .slice Ao21 t190.length co21] 24 (0, 0)) from by refine bkt ?_; exact BK194.out) (show _ = some (Obj.stringIter (⟨#[48, 49, 49, 49, 48, 48, 49, 49, 49, 49, 48]⟩ : ByteArray) (x207001_1 : Int).toNat) from by refine bkt ?_; exact BK206.out) hs); have n3_ := Aside0.mk (XIter.blk_it (show _ = some (Obj.cells #[.int .i64 t199, .int .i64 t200, .slice Ao28 t201.length co28] 24 (0, 0)) from by refine bkt ?_; exact BK205.out) (show _ = some (Obj.stringIter (⟨#[48, 49, 49, 49, 48, 48, 49, 49, 49, 49, 48]⟩ : ByteArray) (x207001_1 : Int).toNat) from by refine bkt ?_; exact BK206.out) hs); have n4_ := Aside0.mk (XIter.below_it (hb3 HB GE194 GE205 GE206) GE206.out hs); have n5_ := Aside0.mk (hbox); clear HO_195002; clear HO_206002; clear BK194; clear BK205; clear HB; clear BK206; have HO_195002 := n0_; have HO_206002 := n1_; have BK194 := n2_; have BK205 := n3_; have HB := n4_; have BK206 := n5_; clear n0_ n1_ n2_ n3_ n4_ n5_; clear hs hbox; (try simp only [Act.put, List.setIfInBounds_toArray, List.set_cons_zero, List.set_cons_succ]); have hnb36 := NB194_205.out; have hnc36 := NB205_194.out; have hnb37 := NB194_206.out; have hnc37 := NB206_194.out; have hcz38_0 : w35.cell? ⟨gb194, 0, none⟩ = some (.int .i64 t188) := (blk_cell BK194.out 0).trans rfl; have hcz38_1 : w35.cell? ⟨gb194, 1, none⟩ = some (.int .i64 t189) := (blk_cell BK194.out 1).trans rfl; have hcz38_2 : w35.cell? ⟨gb194, 2, none⟩ = some (.slice Ao21 t190.length co21) := (blk_cell BK194.out 2).trans rfl; have hfz38_0 := blk_frozen BK194.out 0; have hfz38_1 := blk_frozen BK194.out 1; have hfz38_2 := blk_frozen BK194.out 2; have p207 : 0 ≤ (x207001_1 : Int) := of_decide_eq_true (by first | (with_reducible assumption) | assumption); have q207 : x207001_1 < (t190.length : Int) := of_decide_eq_true (by first | (with_reducible assumption) | assumption); obtain ⟨ad207, e207, hx207_0⟩ := Kd.at_bool (Kd.R_reads' HO_195002.out).2.2 x207001_1 p207 q207; cases e207; replace p207 := eq_true p207; replace q207 := eq_true q207))
                  go_roundg k1
                  case measure => have := HK1.out; omega
                  case rel => exact ⟨(XIter.nx (⟨#[48, 49, 49, 49, 48, 48, 49, 49, 49, 49, 48]⟩ : ByteArray) x207001_1), H', ⟨by have := HK1.out; omega⟩, ⟨rkx HO_195002⟩, ⟨rkx HO_206002⟩, ⟨bkx BK194⟩, ⟨bkx BK205⟩, ⟨bkx BK206⟩, ⟨hb3 HB GE194 GE205 GE206⟩⟩
                ·rw [if_neg c33] at H
                 exact absurd H (by simp)
               ·rw [if_neg c32] at H
                have c32b0 : decide (x207001_1 < ((⟨#[48, 49, 49, 49, 48, 48, 49, 49, 49, 49, 48]⟩ : ByteArray).size : Int)) = false := decide_eq_false c32
                clear c32
                replace H := Option.bind_eq_some_iff.mp H
                obtain ⟨t208, A390, H⟩ := H
                replace H : (some ((t208.length : Int) == 62)) = some r := H
                have A39 := Aside0.mk A390
                clear A390
                obtain rfl := Option.some.inj H
                go_wp2_with (first | ((with_reducible refine gate_dst (N := 80) rfl ?_); (try (refine gate_guard (by rfl) ?_; dsimp only)); refine XIter.next_none (i := .tmp 79) (g := gb206) (s := (⟨#[48, 49, 49, 49, 48, 48, 49, 49, 49, 49, 48]⟩ : ByteArray)) (x := x207001_1) (N := 80) ?hg ?hd ?ho ?hi ?hb ?h0 ?h1 ?_; (case hg => rfl); (case hd => rfl); (case ho => rfl); (case hi => first | rfl | (go_simp; done) | (go_simp; rfl)); (case hb => exact (show _ = some (Obj.stringIter (⟨#[48, 49, 49, 49, 48, 48, 49, 49, 49, 49, 48]⟩ : ByteArray) (x207001_1 : Int).toNat) from by refine bkt ?_; exact BK206.out)); (case h0 => exact of_decide_eq_true (by first | (with_reducible assumption) | assumption)); (case h1 => exact of_decide_eq_false (by first | (with_reducible assumption) | assumption)); intro w40 hs hbox; have n0_ := Aside0.mk (XIter.R_it (rkx HO_195002) (show _ = some (Obj.stringIter (⟨#[48, 49, 49, 49, 48, 48, 49, 49, 49, 49, 48]⟩ : ByteArray) (x207001_1 : Int).toNat) from by refine bkt ?_; exact BK206.out) hs); have n1_ := Aside0.mk (XIter.R_it (rkx HO_206002) (show _ = some (Obj.stringIter (⟨#[48, 49, 49, 49, 48, 48, 49, 49, 49, 49, 48]⟩ : ByteArray) (x207001_1 : Int).toNat) from by refine bkt ?_; exact BK206.out) hs); have n2_ := Aside0.mk (XIter.blk_it (show _ = some (Obj.cells #[.int .i64 t188, .int .i64 t189, .slice Ao21 t190.length co21] 24 (0, 0)) from by refine bkt ?_; exact BK194.out) (show _ = some (Obj.stringIter (⟨#[48, 49, 49, 49, 48, 48, 49, 49, 49, 49, 48]⟩ : ByteArray) (x207001_1 : Int).toNat) from by refine bkt ?_; exact BK206.out) hs); have n3_ := Aside0.mk (XIter.blk_it (show _ = some (Obj.cells #[.int .i64 t199, .int .i64 t200, .slice Ao28 t201.length co28] 24 (0, 0)) from by refine bkt ?_; exact BK205.out) (show _ = some (Obj.stringIter (⟨#[48, 49, 49, 49, 48, 48, 49, 49, 49, 49, 48]⟩ : ByteArray) (x207001_1 : Int).toNat) from by refine bkt ?_; exact BK206.out) hs); have n4_ := Aside0.mk (XIter.below_it (hb3 HB GE194 GE205 GE206) GE206.out hs); have n5_ := Aside0.mk (hbox); clear HO_195002; clear HO_206002; clear BK194; clear BK205; clear HB; clear BK206; have HO_195002 := n0_; have HO_206002 := n1_; have BK194 := n2_; have BK205 := n3_; have HB := n4_; have BK206 := n5_; clear n0_ n1_ n2_ n3_ n4_ n5_; clear hs hbox; (try simp only [Act.put, List.setIfInBounds_toArray, List.set_cons_zero, List.set_cons_succ])) | ((with_reducible refine gate_callee (f := 21) rfl ?_); refine goesL_ (some 92) rfl rfl Try.func21 (by kernel_rfl) rfl #[] rfl mapx ?_; (with_reducible refine (font_Chars.calls k1  t208 _ A39.out).mono ?_); rintro e w41 ⟨v209, rfl, ho0, hb⟩; refine ⟨_, rfl, ?_⟩; have n0_ := Aside0.mk (Kd.R_below (rkx HO_195002) hb); have n1_ := Aside0.mk (Kd.R_below (rkx HO_206002) hb); have n2_ := Aside0.mk (Kd.R_lower ho0 (below_size (hb3 HB GE194 GE205 GE206))); have n3_ := Aside0.mk (blk_below (bkx BK194) hb); have n4_ := Aside0.mk (blk_below (bkx BK205) hb); have n5_ := Aside0.mk (blk_below (g := gb206) (o := .stringIter (⟨#[48, 49, 49, 49, 48, 48, 49, 49, 49, 49, 48]⟩ : ByteArray) (x207001_1 : Int).toNat) (bkx BK206) hb); have n6_ := Aside0.mk (below_step (hb3 HB GE194 GE205 GE206) hb); clear HO_195002; clear HO_206002; clear BK194; clear BK205; clear BK206; clear HB; have HO_195002 := n0_; have HO_206002 := n1_; have HO210 := n2_; have BK194 := n3_; have BK205 := n4_; have BK206 := n5_; have HB := n6_; clear n0_ n1_ n2_ n3_ n4_ n5_ n6_; (try clear hb); (try clear hb2); (try clear hk); (try clear hi); (try clear ho0); obtain ⟨Ao42, co42, eo42⟩ := Kd.R_slice HO210.out; subst eo42))
                go_ret
                exact ⟨by first | rfl | (simp [errW_none, errW_some] <;> rfl) | (simp [*, errW_none, errW_some] <;> rfl), by repeat (first | (with_reducible first | exact HB.out | apply below_alloc | apply pw_below_drewN | apply below_drew1 | refine below_set ?_ GE194.out | refine below_set ?_ GE205.out | refine below_set ?_ GE206.out) | exact HB.out)⟩
              ·rw [if_neg c31] at H
               exact absurd H (by simp)
           ·rw [if_neg c16] at H
            exact absurd H (by simp)
          ·rw [if_neg c15] at H
           exact absurd H (by simp)
         ·rw [if_neg c14] at H
          exact absurd H (by simp)
        ·rw [if_neg c13] at H
         exact absurd H (by simp)
       ·rw [if_neg c12] at H
        exact absurd H (by simp)
      ·rw [if_neg c11] at H
       exact absurd H (by simp)
     ·rw [if_neg c10] at H
      exact absurd H (by simp)
    ·rw [if_neg c9] at H
     exact absurd H (by simp)
   ·rw [if_neg c8] at H
    exact absurd H (by simp)
  ·rw [if_neg c7] at H
   exact absurd H (by simp)
 ·rw [if_neg c6] at H
  exact absurd H (by simp)

end Go.Proofs.Ytghfcdgdbdeomaa.PR
