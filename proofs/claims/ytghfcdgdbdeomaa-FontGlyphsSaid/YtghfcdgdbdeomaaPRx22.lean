-- Written by this session's own program (myprint.py).
import Derived.Test.YtghfcdgdbdeomaaPRx0
import Derived.Test.YtghfcdgdbdeomaaPRx21
namespace Go.Proofs.Ytghfcdgdbdeomaa.PR
open Go.RowKit Go.Proofs.YtghfcdgdbdeomaaW.PrintWords Go.Proofs.YtghfcdgdbdeomaaW.PrintLast Go.Proofs.YtghfcdgdbdeomaaW.PrintMore Go.Proofs.Ytghfcdgdbdeomaa.XWords Go.Proofs.Ytghfcdgdbdeomaa.XShort
attribute [local go_sem] max2_int min2_int max_two min_two max_three min_three max_four min_four   -- for this text's walks alone
set_option linter.unusedVariables false
set_option linter.unusedSimpArgs false

/-! ### barscanref47_Closest: function 23 -/
mutual
def barscanref47_Closest.l0 : Nat → Int → List Int → Int → Option (Int)
 | 0, _, _, _ => none
 | k + 1, x1, x2, x3 => if x3 < (x2.length : Int) then (barscanref47_Closest.l1 k x1 x2 x3 0) else (some x1)
def barscanref47_Closest.l1 : Nat → Int → List Int → Int → Int → Option (Int)
 | 0, _, _, _, _ => none
 | k + 1, x1, x2, x3, x4 => if x4 < x3 then (if 0 ≤ x3 then (if x3 < (x2.length : Int) then (if 0 ≤ x4 then (if x4 < (x2.length : Int) then ((barscanref47_Distance.f k (rd x2 x3) (rd x2 x4)).bind fun bt459 => (barscanref47_Closest.l1 k (mn x1 bt459.1) x2 x3 (wrap64 (x4 + 1)))) else (none)) else (none)) else (none)) else (none)) else (barscanref47_Closest.l0 k x1 x2 (wrap64 (x3 + 1)))
end
def barscanref47_Closest.f (k : Nat)  : Option (Int) := (barscanref47_Chars.f k).bind fun t454 => (barscanref47_Closest.l0 k 35 t454 0)
theorem barscanref47_Closest.mono_l : ∀ k, (∀ y0 y1 y2, LeO (barscanref47_Closest.l0 k y0 y1 y2) (barscanref47_Closest.l0 (k + 1) y0 y1 y2)) ∧ (∀ y0 y1 y2 y3, LeO (barscanref47_Closest.l1 k y0 y1 y2 y3) (barscanref47_Closest.l1 (k + 1) y0 y1 y2 y3))
 | 0 => ⟨fun _ _ _ r h => by simp [barscanref47_Closest.l0] at h, fun _ _ _ _ r h => by simp [barscanref47_Closest.l1] at h⟩
 | k + 1 => by
  obtain ⟨ih0, ih1⟩ := barscanref47_Closest.mono_l k
  refine ⟨?_, ?_⟩
  ·intro y0 y1 y2
   unfold barscanref47_Closest.l0
   repeat' first
   | (with_reducible exact ih0 _ _ _)
   | (with_reducible exact ih1 _ _ _ _)
   | (with_reducible exact barscanref47_Chars.mono _)
   | (with_reducible exact barscanref47_Distance.mono _ _ _)
   | (with_reducible exact LeO.refl _)
   | (with_reducible exact LeO.none _)
   | (with_reducible refine LeO.ite ?_ ?_)
   | (with_reducible refine LeO.bind ?_ (fun _ => ?_))
   | exact ih0 _ _ _
   | exact ih1 _ _ _ _
   | exact barscanref47_Chars.mono _
   | exact barscanref47_Distance.mono _ _ _
   | exact LeO.none _
   | refine LeO.ite ?_ ?_
   | refine LeO.bind ?_ (fun _ => ?_)
  ·intro y0 y1 y2 y3
   unfold barscanref47_Closest.l1
   repeat' first
   | (with_reducible exact ih0 _ _ _)
   | (with_reducible exact ih1 _ _ _ _)
   | (with_reducible exact barscanref47_Chars.mono _)
   | (with_reducible exact barscanref47_Distance.mono _ _ _)
   | (with_reducible exact LeO.refl _)
   | (with_reducible exact LeO.none _)
   | (with_reducible refine LeO.ite ?_ ?_)
   | (with_reducible refine LeO.bind ?_ (fun _ => ?_))
   | exact ih0 _ _ _
   | exact ih1 _ _ _ _
   | exact barscanref47_Chars.mono _
   | exact barscanref47_Distance.mono _ _ _
   | exact LeO.none _
   | refine LeO.ite ?_ ?_
   | refine LeO.bind ?_ (fun _ => ?_)
theorem barscanref47_Closest.mono : ∀ k, LeO (barscanref47_Closest.f k ) (barscanref47_Closest.f (k + 1) ) := by
 intro  k
 obtain ⟨ih0, ih1⟩ := barscanref47_Closest.mono_l k
 unfold barscanref47_Closest.f
 repeat' first
   | (with_reducible exact ih0 _ _ _)
   | (with_reducible exact ih1 _ _ _ _)
   | (with_reducible exact barscanref47_Chars.mono _)
   | (with_reducible exact barscanref47_Distance.mono _ _ _)
   | (with_reducible exact LeO.refl _)
   | (with_reducible exact LeO.none _)
   | (with_reducible refine LeO.ite ?_ ?_)
   | (with_reducible refine LeO.bind ?_ (fun _ => ?_))
   | exact ih0 _ _ _
   | exact ih1 _ _ _ _
   | exact barscanref47_Chars.mono _
   | exact barscanref47_Distance.mono _ _ _
   | exact LeO.none _
   | refine LeO.ite ?_ ?_
   | refine LeO.bind ?_ (fun _ => ?_)
def barscanref47_Closest.T9 : Bool × List (List Nat × List Nat) := (true, [([], []), ([], []), ([0, 1], [0, 1]), ([2], [2]), ([], []), ([], []), ([4, 5], [4, 5]), ([6], [6]), ([3, 7], [3, 7]), ([8], [8]), ([9], [9]), ([9], [9]), ([10, 8, 0, 1, 2, 3, 4, 5, 6, 7, 8, 9, 10], [10]), ([11, 12, 0, 1, 2, 3, 4, 5, 6, 7, 8, 9, 10, 11, 12], [11])])
def barscanref47_Closest.B9 : List Nat := [0, 0, 3, 7, 0, 0, 48, 112, 255, 511, 1023, 1023, 2047, 8191]
theorem barscanref47_Closest.tab9 : rtab .any (opsOf Try.f23 9) = barscanref47_Closest.T9 := by kernel_rfl
theorem barscanref47_Closest.bits9 : waitsOk barscanref47_Closest.T9.2 barscanref47_Closest.B9 = true := by kernel_rfl
set_option maxHeartbeats 8000000 in
set_option maxRecDepth 100000 in
theorem barscanref47_Closest.calls (k : Nat)  (r : Int) (w : World) (h : barscanref47_Closest.f k  = some r) :
  Calls Try.prog 23 #[] w fun e w' => e = .returned (.int .i64 r) ∧ Below w.heap.size w w' := by
 have HB := Aside0.mk (Below.refl w.heap.size w)
 have H : ((barscanref47_Chars.f k).bind fun t454 => (barscanref47_Closest.l0 k 35 t454 0)) = some r := h
 clear h
 replace H := Option.bind_eq_some_iff.mp H
 obtain ⟨t454, A10, H⟩ := H
 replace H : (barscanref47_Closest.l0 k 35 t454 0) = some r := H
 have A1 := Aside0.mk A10
 clear A10
 have H' := Aside0.mk H
 clear H
 go_enter Try.func23, Try.ntmps23
 go_wp2_with (first | ((with_reducible refine gate_callee (f := 22) rfl ?_); refine goesL_ (some 7) rfl rfl Try.func22 (by kernel_rfl) rfl #[] rfl mapx ?_; (with_reducible refine (barscanref47_Chars.calls k  t454 _ A1.out).mono ?_); rintro e w2 ⟨v455, rfl, ho0, hb⟩; refine ⟨_, rfl, ?_⟩; have n0_ := Aside0.mk (Kd.R_lower ho0 (below_size (hb0 HB))); have n1_ := Aside0.mk (below_step (hb0 HB) hb); clear HB; have HO456 := n0_; have HB := n1_; clear n0_ n1_; (try clear hb); (try clear hb2); (try clear hk); (try clear hi); (try clear ho0)))
 go_loopg [1, 3] k (fun kq v1 v3 w' => ∃ (x1_1 : Int) (x3_1 : Int), v1 = .int .i64 x1_1 ∧ v3 = .int .i64 x3_1 ∧ Aside0 (barscanref47_Closest.l0 kq x1_1 t454 x3_1 = some r) ∧ Aside0 (kq ≤ k) ∧ Aside0 (Kd.R (Kd.int .u8) 5 w' w.heap.size (fun _ => True) v455 t454) ∧ Aside0 (Below w.heap.size w w'))
 case atStart => exact ⟨(35), (0), (by first | rfl | (simp; done) | (simp [*]; done)), (by first | rfl | (simp; done) | (simp [*]; done)), H', ⟨Nat.le_refl _⟩, ⟨rkx HO456⟩, ⟨hb0 HB⟩⟩
 case round =>
  clear H'
  try clear c2
  try clear p2
  obtain ⟨x1_1, x3_1, rfl, rfl, HA, HK1, HO_2, HB⟩ := hrel
  cases gk with
  | zero => exact absurd HA.out (by simp [barscanref47_Closest.l0])
  | succ k1 =>
   have H := HA.out
   clear HA
   simp only [barscanref47_Closest.l0] at H
   by_cases c3 : x3_1 < (t454.length : Int)
   ·rw [if_pos c3] at H
    have c3b0 : decide (x3_1 < (t454.length : Int)) = true := decide_eq_true c3
    clear c3
    have H' := Aside0.mk H
    clear H
    obtain ⟨Ao4, co4, eo4⟩ := Kd.R_slice HO_2.out
    subst eo4
    go_wp2
    go_loopg [1, 4] k1 (fun kq v1 v4 w' => ∃ (x1_2 : Int) (x4_2 : Int), v1 = .int .i64 x1_2 ∧ v4 = .int .i64 x4_2 ∧ Aside0 (barscanref47_Closest.l1 kq x1_2 t454 x3_1 x4_2 = some r) ∧ Aside0 (kq ≤ k1) ∧ Aside0 (Kd.R (Kd.int .u8) 5 w' w.heap.size (fun _ => True) (.slice Ao4 t454.length co4) t454) ∧ Aside0 (Below w.heap.size w w'))
    case atStart => exact ⟨(x1_1), (0), (by first | rfl | (simp; done) | (simp [*]; done)), (by first | rfl | (simp; done) | (simp [*]; done)), H', ⟨Nat.le_refl _⟩, ⟨rkx HO_2⟩, ⟨hb0 HB⟩⟩
    case round =>
     clear H'
     try clear c2
     try clear p2
     try clear c3
     try clear c3b0
     try clear p2
     obtain ⟨x1_2, x4_2, rfl, rfl, HA, HK2, HO_2, HB⟩ := hrel
     cases gk with
     | zero => exact absurd HA.out (by simp [barscanref47_Closest.l1])
     | succ k2 =>
      have H := HA.out
      clear HA
      simp only [barscanref47_Closest.l1] at H
      by_cases c5 : x4_2 < x3_1
      ·rw [if_pos c5] at H
       have c5b0 : decide (x4_2 < x3_1) = true := decide_eq_true c5
       clear c5
       by_cases c6 : 0 ≤ x3_1
       ·rw [if_pos c6] at H
        have c6b0 : decide (0 ≤ x3_1) = true := decide_eq_true c6
        clear c6
        by_cases c7 : x3_1 < (t454.length : Int)
        ·rw [if_pos c7] at H
         have c7b0 : decide (x3_1 < (t454.length : Int)) = true := decide_eq_true c7
         clear c7
         by_cases c8 : 0 ≤ x4_2
         ·rw [if_pos c8] at H
          have c8b0 : decide (0 ≤ x4_2) = true := decide_eq_true c8
          clear c8
          by_cases c9 : x4_2 < (t454.length : Int)
          ·rw [if_pos c9] at H
           have c9b0 : decide (x4_2 < (t454.length : Int)) = true := decide_eq_true c9
           clear c9
           replace H := Option.bind_eq_some_iff.mp H
           obtain ⟨⟨t459, t460⟩, A100, H⟩ := H
           replace H : (barscanref47_Closest.l1 k2 (mn x1_2 t459) t454 x3_1 (wrap64 (x4_2 + 1))) = some r := H
           have A10 := Aside0.mk A100
           clear A100
           obtain ⟨ji11, hji11⟩ : ∃ j_ : Int, (mn x1_2 t459) = j_ := ⟨_, rfl⟩
           replace H : (barscanref47_Closest.l1 k2 ji11 t454 x3_1 (wrap64 (x4_2 + 1))) = some r := by first | (rw [hji11] at H; exact H) | (simp only [hji11] at H ⊢; exact H)
           (try rw [hji11] at A10)
           have hji11_ : (if t459 < x1_2 then t459 else x1_2) = ji11 := hji11
           have H' := Aside0.mk H
           clear H
           try go_wp2
           have n0_ := Aside0.mk (Kd.R_drew HO_2.out)
           have n1_ := Aside0.mk (below_drew1 HB.out)
           clear HO_2
           clear HB
           have HO_2 := n0_
           have HB := n1_
           clear n0_ n1_
           have p457 : 0 ≤ (x3_1 : Int) := of_decide_eq_true (by first | (with_reducible assumption) | assumption)
           have q457 : x3_1 < (t454.length : Int) := of_decide_eq_true (by first | (with_reducible assumption) | assumption)
           obtain ⟨ad457, e457, hx457_0⟩ := Kd.at_int (Kd.R_reads' HO_2.out).2.2 x3_1 p457 q457
           cases e457
           replace p457 := eq_true p457
           replace q457 := eq_true q457
           have p458 : 0 ≤ (x4_2 : Int) := of_decide_eq_true (by first | (with_reducible assumption) | assumption)
           have q458 : x4_2 < (t454.length : Int) := of_decide_eq_true (by first | (with_reducible assumption) | assumption)
           obtain ⟨ad458, e458, hx458_0⟩ := Kd.at_int (Kd.R_reads' HO_2.out).2.2 x4_2 p458 q458
           obtain rfl : ad457 = ad458 := (by injection e458)
           replace p458 := eq_true p458
           replace q458 := eq_true q458
           refine start_ (n := 14) (S := fun w' => w'.cell? (ad457.add (x3_1).toNat) = some (.int .u8 (rd t454 x3_1)) ∧ w'.cell? (ad457.add (x4_2).toNat) = some (.int .u8 (rd t454 x4_2))) (ds := []) (bA 14 0) (by kernel_rfl) rfl rfl ⟨hx457_0, hx458_0⟩ (fun hHeld => ?_); refine with_tabW barscanref47_Closest.tab9 barscanref47_Closest.bits9 (fun HT_ HW_ => ?_)
           generalize wr.drew = w12 at HO_2 HB hx457_0 hx458_0 hHeld ⊢
           refine pt HT_ 0 20 ?_
           refine pt HT_ 1 21 ?_
           refine pt HT_ 2 22 ?_
           refine pt HT_ 4 24 ?_
           refine pt HT_ 5 25 ?_
           refine pt HT_ 6 26 ?_
           refine tk HT_ HW_ hHeld 3 23 ?_
           refine tk HT_ HW_ hHeld 7 27 ?_
           refine one_ (i := 8) (N := some 28) (bA 14 511) rfl rfl (one_of HT_.out (by kernel_rfl)) (by decide) (fun K hK => ?_)
           refine goes_ Try.func20 (by kernel_rfl) rfl #[.int .u8 (rd t454 x3_1), .int .u8 (rd t454 x4_2)] (by rfl) rfl rfl mapx ?_
           with_reducible refine (barscanref47_Distance.calls k2 (rd t454 x3_1) (rd t454 x4_2) t459 t460 _ A10.out).mono ?_
           rintro e w13 ⟨rfl, hb⟩
           have HS0_ := (hb.cell (World.block_lt_of_cell? _ _ (hHeld.1))).trans (hHeld.1)
           have HS1_ := (hb.cell (World.block_lt_of_cell? _ _ (hHeld.2))).trans (hHeld.2)
           refine ⟨_, rfl, ?_⟩
           have n0_ := Aside0.mk (Kd.R_below (rkx HO_2) hb)
           have n1_ := Aside0.mk (below_step (hb0 HB) hb)
           clear HO_2
           clear HB
           have HO_2 := n0_
           have HB := n1_
           clear n0_ n1_
           (try clear hb)
           (try clear hb2)
           (try clear hk)
           (try clear hi)
           refine hK.out _ _ ⟨HS0_, HS1_⟩ (fun hHeld => ?_)
           clear hK K
           refine norm_ (a' := ?_) ?_ ?_
           rotate_left
           ·show Act.put _ (some 28) _ = _
            simp only [Act.put, List.setIfInBounds_toArray, List.set_cons_zero, List.set_cons_succ, i64_w, i32_w]
            rfl
           refine pt HT_ 9 19 ?_
           refine pt HT_ 10 29 ?_
           refine pt HT_ 11 30 ?_
           refine pt HT_ 12 5 ?_
           refine pt HT_ 13 6 ?_
           refine done_ (done_of HT_.out (by kernel_rfl)) ?_
           try go_wp2
           go_roundg k2
           case measure => have := HK1.out; have := HK2.out; omega
           case rel => exact ⟨(ji11), (wrap64 (x4_2 + 1)), (by first | rfl | (simp; done) | (simp only [← hji11] <;> (first | rfl | simp)) | (simp [*]; done)), (by first | rfl | (simp; done) | (simp [*]; done)), H', ⟨by have := HK1.out; have := HK2.out; omega⟩, ⟨rkx HO_2⟩, ⟨hb0 HB⟩⟩
          ·rw [if_neg c9] at H
           exact absurd H (by simp)
         ·rw [if_neg c8] at H
          exact absurd H (by simp)
        ·rw [if_neg c7] at H
         exact absurd H (by simp)
       ·rw [if_neg c6] at H
        exact absurd H (by simp)
      ·rw [if_neg c5] at H
       have c5b0 : decide (x4_2 < x3_1) = false := decide_eq_false c5
       clear c5
       have H' := Aside0.mk H
       clear H
       go_wp2
       go_roundg k2
       case measure => have := HK1.out; have := HK2.out; omega
       case rel => exact ⟨(x1_2), (wrap64 (x3_1 + 1)), (by first | rfl | (simp; done) | (simp [*]; done)), (by first | rfl | (simp; done) | (simp [*]; done)), H', ⟨by have := HK1.out; have := HK2.out; omega⟩, ⟨rkx HO_2⟩, ⟨hb0 HB⟩⟩
   ·rw [if_neg c3] at H
    have c3b0 : decide (x3_1 < (t454.length : Int)) = false := decide_eq_false c3
    clear c3
    obtain rfl := Option.some.inj H
    obtain ⟨Ao14, co14, eo14⟩ := Kd.R_slice HO_2.out
    subst eo14
    go_wp2
    go_ret
    exact ⟨by first | rfl | (simp [errW_none, errW_some] <;> rfl) | (simp [*, errW_none, errW_some] <;> rfl), by repeat (first | (with_reducible first | exact HB.out | apply below_alloc | apply pw_below_drewN | apply below_drew1) | exact HB.out)⟩

end Go.Proofs.Ytghfcdgdbdeomaa.PR
