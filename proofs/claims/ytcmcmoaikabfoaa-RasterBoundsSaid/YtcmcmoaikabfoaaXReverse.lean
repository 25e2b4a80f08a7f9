/-
slices.Reverse of a cut of a row of the call's own: the cut is reversed, the rest of the row is as it was. Conditions: as the theorem says.
-/
import Derived.Test.YtcmcmoaikabfoaaProg
import Derived.Below
import Derived.Deep.Draws
import Derived.Deep.AppendLies
import Derived.Maps.AppendAt
import Derived.OwnWalk
import Derived.Laws.BytesArg
import Derived.Laws.MakeOwn
import Derived.Laws.OwnMore
import Derived.Deep.OwnRows
import Derived.Tactics
import Derived.Lib.ConvBytes
import Derived.Laws.Slices
import Derived.WalkKit
import Derived.KernelRfl
import Derived.RowKit3
import Derived.Deep.LoopGhost
import Derived.Deep.QuietTactic
import Derived.BigQuiet
import Derived.WideLaws
import Derived.Deep.DeepCutAuto
import Derived.Deep.CutBlock
import Derived.Deep.RegionHeld3
import Derived.Laws.Rows
import Derived.Lib.AppendStr
import Derived.ArgAppend
import Derived.Laws.IdiomCopy
import Derived.OrdersHeld
import Derived.Laws.BitsLemmas
import Derived.RowKit
import Derived.Test.YtcmcmoaikabfoaaWWords
import Derived.Test.YtcmcmoaikabfoaaWLast
import Derived.Test.YtcmcmoaikabfoaaWTab
import Derived.Test.YtcmcmoaikabfoaaWFour
import Derived.Test.YtcmcmoaikabfoaaWQPut
import Derived.Test.YtcmcmoaikabfoaaWApart
import Derived.Test.YtcmcmoaikabfoaaWArr
import Derived.Test.YtcmcmoaikabfoaaWZeros
import Derived.Test.YtcmcmoaikabfoaaWFoot
import Derived.Test.YtcmcmoaikabfoaaWKept
import Derived.Test.YtcmcmoaikabfoaaWShare
import Derived.Test.YtcmcmoaikabfoaaWN
import Derived.Test.YtcmcmoaikabfoaaWFootNe
import Derived.Test.YtcmcmoaikabfoaaWAt
import Derived.Test.YtcmcmoaikabfoaaWEqStruct
import Derived.Test.YtcmcmoaikabfoaaWRepsOne
import Derived.Test.YtcmcmoaikabfoaaWInv
import Derived.Test.YtcmcmoaikabfoaaWInvWords
import Derived.Test.YtcmcmoaikabfoaaWGuard
import Derived.Test.YtcmcmoaikabfoaaWNEv
import Derived.Test.YtcmcmoaikabfoaaWMore
import Derived.Test.YtcmcmoaikabfoaaXWords
import Derived.IntWalk
namespace Go.Proofs.Ytcmcmoaikabfoaa.XReverse
open Go.RowKit Go.Proofs.YtcmcmoaikabfoaaW.PrintWords Go.Proofs.YtcmcmoaikabfoaaW.PrintLast Go.Proofs.YtcmcmoaikabfoaaW.PrintMore Go.Proofs.Ytcmcmoaikabfoaa.XWords
set_option linter.unusedVariables false
set_option linter.unusedSimpArgs false
theorem splice_cut {α : Type} (xs : List α) (off m : Nat) (h : off + m ≤ xs.length) : splice xs off ((xs.take (off + m)).drop off) = xs := by
  apply List.ext_getElem?
  intro j
  rw [getElem?_splice _ _ _ (by omega), List.length_drop, List.length_take]
  by_cases h1 : j < off
  · rw [if_pos h1]
  · rw [if_neg h1]
    by_cases h2 : j < off + (min (off + m) xs.length - off)
    · rw [if_pos h2, List.getElem?_drop, List.getElem?_take, if_pos (by omega)]
      congr 1
      omega
    · rw [if_neg h2]
theorem rdOf_splice {xs ys : List Bool} {off : Nat} {i : Int} (h : off + ys.length ≤ xs.length) (h0 : 0 ≤ i) (h1 : i < (ys.length : Int)) : rdOf false (splice xs off ys) ((off : Int) + i) = rdOf false ys i := by
  unfold rdOf
  rw [List.getD_eq_getElem?_getD, List.getD_eq_getElem?_getD, getElem?_splice _ _ _ (by omega), if_neg (by omega), if_pos (by omega)]
  congr 2
  omega
theorem set_splice {xs ys : List Bool} {off : Nat} {i : Int} {v : Bool} (h : off + ys.length ≤ xs.length) (h0 : 0 ≤ i) (h1 : i < (ys.length : Int)) : (splice xs off ys).set ((off : Int) + i).toNat v = splice xs off (ys.set i.toNat v) := by
  apply List.ext_getElem?
  intro j
  have hl := Go.length_splice xs off ys h
  rw [getElem?_splice _ _ _ (by omega), List.length_set, List.getElem?_set, getElem?_splice _ _ _ (by omega), List.getElem?_set, hl]
  by_cases hj : ((off : Int) + i).toNat = j
  · rw [if_pos hj, if_neg (show ¬ j < off by omega), if_pos (show j < off + ys.length by omega), if_pos (show i.toNat = j - off by omega), if_pos (by omega), if_pos (by omega)]
  · rw [if_neg hj]
    by_cases h2 : j < off
    · rw [if_pos h2, if_pos h2]
    · rw [if_neg h2, if_neg h2]
      by_cases h3 : j < off + ys.length
      · rw [if_pos h3, if_pos h3, if_neg (show ¬ i.toNat = j - off by omega)]
      · rw [if_neg h3, if_neg h3]
/-! ### revB: function 53 -/
def revB.l0 : Nat → List Bool → Int → Int → Option (List Bool)
  | 0, _, _, _ => none
  | k + 1, x0, x2, x3 => if x2 < x3 then (if 0 ≤ x3 then (if x3 < (x0.length : Int) then (if 0 ≤ x2 then (if x2 < (x0.length : Int) then (revB.l0 k ((x0.set (x2 : Int).toNat (rdOf false x0 x3)).set (x3 : Int).toNat (rdOf false x0 x2)) (wrap64 (x2 + 1)) (wrap64 (x3 - 1))) else (none)) else (none)) else (none)) else (none)) else (some x0)
def revB.T3 : Bool × List (List Nat × List Nat) := (true, [([], []), ([], []), ([], []), ([], []), ([], []), ([], []), ([4, 5], [4, 5]), ([6], [6]), ([], []), ([], []), ([8, 9], [8, 9]), ([10], [10]), ([0, 1, 0, 1, 4, 5, 6, 7, 11], [0, 1]), ([12, 7, 0, 1, 4, 5, 6, 7, 11], [7, 12]), ([2, 3, 0, 1, 2, 3, 4, 5, 6, 7, 8, 9, 10, 11, 12, 13], [2, 3]), ([14, 11, 13, 0, 1, 2, 3, 4, 5, 6, 7, 8, 9, 10, 11, 12, 13], [11, 14])])
def revB.B3 : List Nat := [0, 0, 0, 0, 0, 0, 48, 112, 0, 0, 768, 1792, 4083, 8179, 16383, 32767]
theorem revB.tab3 : rtab .any (opsOf Try.f53 3) = revB.T3 := by kernel_rfl
theorem revB.bits3 : waitsOk revB.T3.2 revB.B3 = true := by kernel_rfl
set_option maxHeartbeats 8000000 in
set_option maxRecDepth 100000 in
theorem revB.cut (k : Nat) (P0_ : Nat → Prop) (go off m n0 c0 c1 : Nat) (xs l0 : List Bool) (r : List Bool) (w0 w : World) (hB : Below w0.heap.size w0 w) (ho0 : Kd.R Kd.bool 4 w w0.heap.size P0_ (.slice (some ⟨go, 0, none⟩) n0 c0) xs) (hl0 : l0 = (xs.take (off + m)).drop off) (hm0 : 0 < m) (hm : off + m ≤ n0) (h : revB.l0 k l0 0 (wrap64 ((l0.length : Int) - 1)) = some r) :
    Calls Try.prog 53 #[.slice (some ⟨go, off, none⟩) m c1] w fun e w' => e = .returned (.tuple #[]) ∧ Kd.R Kd.bool 4 w' w0.heap.size P0_ (.slice (some ⟨go, 0, none⟩) n0 c0) (splice xs off r) ∧ Below w0.heap.size w0 w' ∧ Kept w w' (fun k_ => P0_ k_) ∧ r.length = m := by
  obtain ⟨hn, hnc, _⟩ := Kd.R_reads' ho0
  replace hn : xs.length = n0 := hn.symm
  have hgo : P0_ go := ho0.1 _ rfl
  have hlm : l0.length = m := by rw [hl0, List.length_drop, List.length_take]; omega
  have hs0 : splice xs off l0 = xs := by
    subst hl0
    exact splice_cut xs off m (by omega)
  have HO0 := Aside0.mk (show Kd.R Kd.bool 4 w w0.heap.size P0_ (.slice (some ⟨go, 0, none⟩) n0 c0) (splice xs off l0) by rw [hs0]; exact ho0)
  have HK := Aside0.mk (Kept.refl w (fun k_ => P0_ k_))
  have HW0 := Aside0.mk hB.size
  have HB := Aside0.mk hB
  clear hB
  have H : (revB.l0 k l0 0 (wrap64 ((m : Int) - 1))) = some r := by rw [← hlm]; exact h
  clear h
  have H' := Aside0.mk H
  clear H
  go_enter Try.func53, Try.ntmps53
  go_wp2
  go_loopg [2, 3] k (fun kq v2 v3 w' => ∃ (x0_1 : List Bool) (x2_1 : Int) (x3_1 : Int), v2 = .int .i64 x2_1 ∧ v3 = .int .i64 x3_1 ∧ Aside0 (revB.l0 kq x0_1 x2_1 x3_1 = some r) ∧ Aside0 (kq ≤ k) ∧ Aside0 (Kd.R Kd.bool 4 w' w0.heap.size P0_ (.slice (some ⟨go, 0, none⟩) n0 c0) (splice xs off x0_1)) ∧ Aside0 (x0_1.length = m) ∧ Aside0 (Kept w w' (fun k_ => P0_ k_)) ∧ Aside0 (Below w0.heap.size w0 w'))
  case atStart => exact ⟨(l0), (0), (wrap64 ((m : Int) - 1)), (by first | rfl | (simp; done) | (simp [*]; done)), (by first | rfl | (simp; done) | (simp [*]; done)), H', ⟨Nat.le_refl _⟩, ⟨by (with_reducible repeat (first | apply Kd.R_alloc | apply Kd.R_drewN | apply Kd.R_drew)); exact HO0.out⟩, ⟨hlm⟩, ⟨by repeat (first | (with_reducible first | exact HK.out | apply Kept.alloc | apply Kept.drewN | apply Kept.drew) | exact HK.out)⟩, ⟨by repeat (first | (with_reducible first | exact HB.out | apply below_alloc | apply pw_below_drewN | apply below_drew1) | exact HB.out)⟩⟩
  case round =>
    clear H'
    try clear p2
    obtain ⟨x0_1, x2_1, x3_1, rfl, rfl, HA, HK1, HO_0, HL, HK, HB⟩ := hrel
    have hl0_1 := HL.out
    have hsl : (splice xs off x0_1).length = n0 := by rw [Go.length_splice _ _ _ (by omega)]; exact hn
    cases gk with
    | zero => exact absurd HA.out (by simp [revB.l0])
    | succ k1 =>
      have H := HA.out
      clear HA
      simp only [revB.l0] at H
      by_cases c3 : x2_1 < x3_1
      · rw [if_pos c3] at H
        have c3b0 : decide (x2_1 < x3_1) = true := decide_eq_true c3
        clear c3
        by_cases c4 : 0 ≤ x3_1
        · rw [if_pos c4] at H
          have c4b0 : decide (0 ≤ x3_1) = true := decide_eq_true c4
          clear c4
          by_cases c5 : x3_1 < (x0_1.length : Int)
          · rw [if_pos c5] at H
            have c5b0 : decide (x3_1 < (x0_1.length : Int)) = true := decide_eq_true c5
            clear c5
            by_cases c6 : 0 ≤ x2_1
            · rw [if_pos c6] at H
              have c6b0 : decide (0 ≤ x2_1) = true := decide_eq_true c6
              clear c6
              by_cases c7 : x2_1 < (x0_1.length : Int)
              · rw [if_pos c7] at H
                have c7b0 : decide (x2_1 < (x0_1.length : Int)) = true := decide_eq_true c7
                clear c7
                obtain ⟨y368, hy368⟩ : ∃ y_ : List Bool, y_ = (x0_1.set (x2_1 : Int).toNat (rdOf false x0_1 x3_1)) := ⟨_, rfl⟩
                replace H : (revB.l0 k1 (y368.set (x3_1 : Int).toNat (rdOf false x0_1 x2_1)) (wrap64 (x2_1 + 1)) (wrap64 (x3_1 - 1))) = some r := by first | (rw [hy368]; with_reducible exact H) | (have H2_ := (Option.bind_some _ _).symm.trans H; rw [hy368]; with_reducible exact H2_) | (have H2_ := (Option.bind_some _ _).symm.trans H; with_reducible exact H2_) | with_reducible exact H | (rw [hy368]; exact H) | exact H
                have Ny368 := Aside0.mk hy368
                clear hy368
                obtain ⟨y369, hy369⟩ : ∃ y_ : List Bool, y_ = (y368.set (x3_1 : Int).toNat (rdOf false x0_1 x2_1)) := ⟨_, rfl⟩
                replace H : (revB.l0 k1 y369 (wrap64 (x2_1 + 1)) (wrap64 (x3_1 - 1))) = some r := by first | (rw [hy369]; with_reducible exact H) | (have H2_ := (Option.bind_some _ _).symm.trans H; rw [hy369]; with_reducible exact H2_) | (have H2_ := (Option.bind_some _ _).symm.trans H; with_reducible exact H2_) | with_reducible exact H | (rw [hy369]; exact H) | exact H
                have Ny369 := Aside0.mk hy369
                clear hy369
                have H' := Aside0.mk H
                clear H
                try go_wp2
                have n0_ := Aside0.mk (Kd.R_drew HO_0.out)
                have n1_ := Aside0.mk (Kept.drew HK.out)
                have n2_ := Aside0.mk (below_drew1 HB.out)
                clear HO_0
                clear HK
                clear HB
                have HO_0 := n0_
                have HK := n1_
                have HB := n2_
                clear n0_ n1_ n2_
                have p3 : 0 ≤ x3_1 := of_decide_eq_true c4b0
                have q3 : x3_1 < (x0_1.length : Int) := of_decide_eq_true c5b0
                have p2 : 0 ≤ x2_1 := of_decide_eq_true c6b0
                have q2 : x2_1 < (x0_1.length : Int) := of_decide_eq_true c7b0
                have e3 : ((off : Int) + x3_1).toNat = off + x3_1.toNat := by omega
                have e2 : ((off : Int) + x2_1).toNat = off + x2_1.toNat := by omega
                have hle : off + x0_1.length ≤ xs.length := by omega
                obtain ⟨go8, co8, eo8, gb8, gl8, cl8, HG8⟩ := Kd.R_form HO_0.out (by omega)
                obtain rfl : go8 = go := by
                  injection eo8 with ea_ en_ ec_
                  injection ea_ with ea_
                  injection ea_ with ea_
                  exact ea_.symm
                have GB8 := Aside0.mk gb8
                have GG8 := Aside0.mk HG8
                clear gb8 gl8 HG8
                have HMgo8 := Aside0.mk (show (P0_ go8 ∨ w.heap.size ≤ go8) from .inl hgo)
                obtain ⟨hx7_0, hf7_0⟩ := Kd.R_celln false HO_0.out ((off : Int) + x3_1) (by omega) (by omega)
                rw [rdOf_splice hle p3 q3, e3] at hx7_0
                rw [e3] at hf7_0
                obtain ⟨hx8_0, hf8_0⟩ := Kd.R_celln false HO_0.out ((off : Int) + x2_1) (by omega) (by omega)
                rw [rdOf_splice hle p2 q2, e2] at hx8_0
                rw [e2] at hf8_0
                have HP11 := Kd.R_putn HO_0.out ((off : Int) + x2_1) (rdOf false x0_1 x3_1)
                rw [set_splice hle p2 q2, e2, ← Ny368.out] at HP11
                have HQ11 := Aside0.mk HP11
                clear HP11
                have hy1 : y368.length = x0_1.length := by rw [Ny368.out, List.length_set]
                obtain ⟨hx9_0, hf9_0⟩ := Kd.R_celln false HQ11.out ((off : Int) + x3_1) (by omega) (by omega)
                rw [e3] at hx9_0 hf9_0
                have HP12 := Kd.R_putn HQ11.out ((off : Int) + x3_1) (rdOf false x0_1 x2_1)
                rw [set_splice (by omega) p3 (by omega), e3, ← Ny369.out] at HP12
                have HQ12 := Aside0.mk HP12
                clear HP12
                have hy2 : y369.length = m := by rw [Ny369.out, List.length_set]; omega
                have q3m := eq_true (show x3_1 < (m : Int) by omega)
                have q2m := eq_true (show x2_1 < (m : Int) by omega)
                replace p3 := eq_true p3
                replace p2 := eq_true p2
                refine start_ (n := 16) (S := fun w' => w'.cell? ⟨go8, off + (x3_1).toNat, none⟩ = some (.bool (rdOf false x0_1 x3_1)) ∧ w'.cell? ⟨go8, off + (x2_1).toNat, none⟩ = some (.bool (rdOf false x0_1 x2_1))) (ds := [13, 15]) #[false, false, false, false, false, false, false, false, false, false, false, false, false, false, false, false] (by kernel_rfl) rfl rfl ⟨hx7_0, hx8_0⟩ (fun hHeld => ?_); refine with_tabW revB.tab3 revB.bits3 (fun HT_ HW_ => ?_)
                generalize wr.drew = w10 at HO_0 HK HB GG8 HQ11 HQ12 hf7_0 hf8_0 hf9_0 hx7_0 hx8_0 hx9_0 hHeld ⊢
                refine pure_ (i := 0) (N := some 14) (v := ?_) (a' := ?_) #[true, false, false, false, false, false, false, false, false, false, false, false, false, false, false, false] rfl rfl (any_of HT_.out (by kernel_rfl)) (fun _ _ _ h => h) (Or.inl ⟨by rfl, ?_⟩) ?_ ?_
                rotate_left
                · intro w'
                  go_simp
                  with_reducible rfl
                rotate_left
                · simp only [Act.put, List.setIfInBounds_toArray, List.set_cons_zero, List.set_cons_succ, i64_w, i32_w]
                  rfl
                refine pure_ (i := 1) (N := some 15) (v := ?_) (a' := ?_) #[true, true, false, false, false, false, false, false, false, false, false, false, false, false, false, false] rfl rfl (any_of HT_.out (by kernel_rfl)) (fun _ _ _ h => h) (Or.inl ⟨by rfl, ?_⟩) ?_ ?_
                rotate_left
                · intro w'
                  go_simp
                  with_reducible rfl
                rotate_left
                · simp only [Act.put, List.setIfInBounds_toArray, List.set_cons_zero, List.set_cons_succ, i64_w, i32_w]
                  rfl
                refine pure_ (i := 2) (N := some 16) (v := ?_) (a' := ?_) #[true, true, true, false, false, false, false, false, false, false, false, false, false, false, false, false] rfl rfl (any_of HT_.out (by kernel_rfl)) (fun _ _ _ h => h) (Or.inl ⟨by rfl, ?_⟩) ?_ ?_
                rotate_left
                · intro w'
                  go_simp
                  with_reducible rfl
                rotate_left
                · simp only [Act.put, List.setIfInBounds_toArray, List.set_cons_zero, List.set_cons_succ, i64_w, i32_w]
                  rfl
                refine pure_ (i := 3) (N := some 17) (v := ?_) (a' := ?_) #[true, true, true, true, false, false, false, false, false, false, false, false, false, false, false, false] rfl rfl (any_of HT_.out (by kernel_rfl)) (fun _ _ _ h => h) (Or.inl ⟨by rfl, ?_⟩) ?_ ?_
                rotate_left
                · intro w'
                  go_simp
                  with_reducible rfl
                rotate_left
                · simp only [Act.put, List.setIfInBounds_toArray, List.set_cons_zero, List.set_cons_succ, i64_w, i32_w]
                  rfl
                refine pure_ (i := 4) (N := some 18) (v := ?_) (a' := ?_) #[true, true, true, true, true, false, false, false, false, false, false, false, false, false, false, false] rfl rfl (any_of HT_.out (by kernel_rfl)) (fun _ _ _ h => h) (Or.inl ⟨by rfl, ?_⟩) ?_ ?_
                rotate_left
                · intro w'
                  go_simp
                  with_reducible rfl
                rotate_left
                · simp only [Act.put, List.setIfInBounds_toArray, List.set_cons_zero, List.set_cons_succ, i64_w, i32_w]
                  rfl
                refine pure_ (i := 5) (N := some 19) (v := ?_) (a' := ?_) #[true, true, true, true, true, true, false, false, false, false, false, false, false, false, false, false] rfl rfl (any_of HT_.out (by kernel_rfl)) (fun _ _ _ h => h) (Or.inl ⟨by rfl, ?_⟩) ?_ ?_
                rotate_left
                · intro w'
                  go_simp
                  with_reducible rfl
                rotate_left
                · simp only [Act.put, List.setIfInBounds_toArray, List.set_cons_zero, List.set_cons_succ, i64_w, i32_w]
                  rfl
                refine pure_ (i := 6) (N := some 20) (v := ?_) (a' := ?_) #[true, true, true, true, true, true, true, false, false, false, false, false, false, false, false, false] rfl rfl (any_of HT_.out (by kernel_rfl)) (fun _ _ _ h => h) (Or.inl ⟨by rfl, ?_⟩) ?_ ?_
                rotate_left
                · intro w'
                  go_simp
                  with_reducible rfl
                rotate_left
                · simp only [Act.put, List.setIfInBounds_toArray, List.set_cons_zero, List.set_cons_succ, i64_w, i32_w]
                  rfl
                refine pure_ (i := 8) (N := some 22) (v := ?_) (a' := ?_) #[true, true, true, true, true, true, true, false, true, false, false, false, false, false, false, false] rfl rfl (any_of HT_.out (by kernel_rfl)) (fun _ _ _ h => h) (Or.inl ⟨by rfl, ?_⟩) ?_ ?_
                rotate_left
                · intro w'
                  go_simp
                  with_reducible rfl
                rotate_left
                · simp only [Act.put, List.setIfInBounds_toArray, List.set_cons_zero, List.set_cons_succ, i64_w, i32_w]
                  rfl
                refine pure_ (i := 9) (N := some 23) (v := ?_) (a' := ?_) #[true, true, true, true, true, true, true, false, true, true, false, false, false, false, false, false] rfl rfl (any_of HT_.out (by kernel_rfl)) (fun _ _ _ h => h) (Or.inl ⟨by rfl, ?_⟩) ?_ ?_
                rotate_left
                · intro w'
                  go_simp
                  with_reducible rfl
                rotate_left
                · simp only [Act.put, List.setIfInBounds_toArray, List.set_cons_zero, List.set_cons_succ, i64_w, i32_w]
                  rfl
                refine pure_ (i := 10) (N := some 24) (v := ?_) (a' := ?_) #[true, true, true, true, true, true, true, false, true, true, true, false, false, false, false, false] rfl rfl (any_of HT_.out (by kernel_rfl)) (fun _ _ _ h => h) (Or.inl ⟨by rfl, ?_⟩) ?_ ?_
                rotate_left
                · intro w'
                  go_simp
                  with_reducible rfl
                rotate_left
                · simp only [Act.put, List.setIfInBounds_toArray, List.set_cons_zero, List.set_cons_succ, i64_w, i32_w]
                  rfl
                refine take_ (i := 7) (N := some 21) (v := ?_) (a' := ?_) #[true, true, true, true, true, true, true, true, true, true, true, false, false, false, false, false] rfl rfl (take_ofW HT_.out HW_.out (by kernel_rfl)) (fun _ _ _ h => h) (Or.inl ⟨by rfl, ?_⟩) hHeld ?_ ?_
                rotate_left
                · rintro w' ⟨s0, s1⟩
                  go_simp
                  with_reducible rfl
                rotate_left
                · simp only [Act.put, List.setIfInBounds_toArray, List.set_cons_zero, List.set_cons_succ, i64_w, i32_w]
                  rfl
                refine take_ (i := 11) (N := some 25) (v := ?_) (a' := ?_) #[true, true, true, true, true, true, true, true, true, true, true, true, false, false, false, false] rfl rfl (take_ofW HT_.out HW_.out (by kernel_rfl)) (fun _ _ _ h => h) (Or.inl ⟨by rfl, ?_⟩) hHeld ?_ ?_
                rotate_left
                · rintro w' ⟨s0, s1⟩
                  go_simp
                  with_reducible rfl
                rotate_left
                · simp only [Act.put, List.setIfInBounds_toArray, List.set_cons_zero, List.set_cons_succ, i64_w, i32_w]
                  rfl
                refine pure_ (i := 12) (N := some 26) (v := ?_) (a' := ?_) #[true, true, true, true, true, true, true, true, true, true, true, true, true, false, false, false] rfl rfl (any_of HT_.out (by kernel_rfl)) (fun _ _ _ h => h) (Or.inl ⟨by rfl, ?_⟩) ?_ ?_
                rotate_left
                · intro w'
                  go_simp
                  with_reducible rfl
                rotate_left
                · simp only [Act.put, List.setIfInBounds_toArray, List.set_cons_zero, List.set_cons_succ, i64_w, i32_w]
                  rfl
                refine last_ (i := 13) (N := none) #[true, true, true, true, true, true, true, true, true, true, true, true, true, true, false, false] rfl rfl (one_of HT_.out (by kernel_rfl)) (by decide) (fun K hK => ?_)
                refine skip_ (w1 := ?_) (by rfl) rfl ?_ ?_
                rotate_left
                · go_simp
                  rfl
                refine hK.out _ _ ?_
                clear hK K
                refine pure_ (i := 14) (N := some 27) (v := ?_) (a' := ?_) #[true, true, true, true, true, true, true, true, true, true, true, true, true, true, true, false] rfl rfl (any_of HT_.out (by kernel_rfl)) (fun _ _ _ h => h) (Or.inl ⟨by rfl, ?_⟩) ?_ ?_
                rotate_left
                · intro w'
                  go_simp
                  with_reducible rfl
                rotate_left
                · simp only [Act.put, List.setIfInBounds_toArray, List.set_cons_zero, List.set_cons_succ, i64_w, i32_w]
                  rfl
                refine last_ (i := 15) (N := none) #[true, true, true, true, true, true, true, true, true, true, true, true, true, true, true, true] rfl rfl (one_of HT_.out (by kernel_rfl)) (by decide) (fun K hK => ?_)
                refine skip_ (w1 := ?_) (by rfl) rfl ?_ ?_
                rotate_left
                · go_simp
                  rfl
                refine hK.out _ _ ?_
                clear hK K
                refine done_ (done_of HT_.out (by kernel_rfl)) ?_
                try go_wp2
                go_roundg k1
                case measure => have := HK1.out; omega
                case rel => exact ⟨(y369), (wrap64 (x2_1 + 1)), (wrap64 (x3_1 - 1)), (by first | rfl | (simp; done) | (simp [*]; done)), (by first | rfl | (simp; done) | (simp [*]; done)), H', ⟨by have := HK1.out; omega⟩, ⟨by (with_reducible repeat (first | apply Kd.R_alloc | apply Kd.R_drewN | apply Kd.R_drew)); exact HQ12.out⟩, ⟨hy2⟩, ⟨by repeat (first | (with_reducible first | exact HK.out | apply Kept.alloc | apply Kept.drewN | apply Kept.drew | refine Kept.setCell ?_ HMgo8.out _ | refine Kept.setCell ?_ HMgo8.out _) | exact HK.out)⟩, ⟨by repeat (first | (with_reducible first | exact HB.out | apply below_alloc | apply pw_below_drewN | apply below_drew1 | refine below_set ?_ GB8.out | refine below_set ?_ GB8.out) | exact HB.out)⟩⟩
              · rw [if_neg c7] at H
                exact absurd H (by simp)
            · rw [if_neg c6] at H
              exact absurd H (by simp)
          · rw [if_neg c5] at H
            exact absurd H (by simp)
        · rw [if_neg c4] at H
          exact absurd H (by simp)
      · rw [if_neg c3] at H
        have c3b0 : decide (x2_1 < x3_1) = false := decide_eq_false c3
        clear c3
        obtain rfl := Option.some.inj H
        go_wp2
        first | go_end0 | ((try simp only [Exit.inBlock, Exit.then]); refine bodyPost_ret (results_none rfl _ _ _) rfl ?_)
        exact ⟨rfl, (by (with_reducible repeat (first | apply Kd.R_alloc | apply Kd.R_drewN | apply Kd.R_drew)); exact HO_0.out), by repeat (first | (with_reducible first | exact HB.out | apply below_alloc | apply pw_below_drewN | apply below_drew1) | exact HB.out), by repeat (first | (with_reducible first | exact HK.out | apply Kept.alloc | apply Kept.drewN | apply Kept.drew) | exact HK.out)⟩
theorem revB.ends (l : List Bool) (hl : (l.length : Int) ≤ 281474976710656) : ∀ (d : Nat) (x : List Bool) (i j : Int), j - i ≤ d → 0 ≤ i → i + j = (l.length : Int) - 1 → -1 ≤ j → j < (l.length : Int) → i ≤ j + 1 → x.length = l.length → (∀ p : Nat, p < l.length → x.getD p false = if (p : Int) < i ∨ j < (p : Int) then l.getD (l.length - 1 - p) false else l.getD p false) → revB.l0 (d + 1) x i j = some l.reverse := by
  have fin : ∀ (x : List Bool) (i j : Int), ¬ i < j → 0 ≤ i → i + j = (l.length : Int) - 1 → x.length = l.length → (∀ p : Nat, p < l.length → x.getD p false = if (p : Int) < i ∨ j < (p : Int) then l.getD (l.length - 1 - p) false else l.getD p false) → x = l.reverse := by
    intro x i j hij hi hs hx hI
    apply List.ext_getElem?
    intro p
    by_cases hp : p < l.length
    · have := hI p hp
      rw [List.getD_eq_getElem?_getD, List.getElem?_eq_getElem (by omega)] at this
      rw [List.getElem?_eq_getElem (by omega), List.getElem?_reverse hp, List.getElem?_eq_getElem (by omega)]
      have e : (if (p : Int) < i ∨ j < (p : Int) then l.getD (l.length - 1 - p) false else l.getD p false) = l.getD (l.length - 1 - p) false := by
        by_cases c : (p : Int) < i ∨ j < (p : Int)
        · rw [if_pos c]
        · rw [if_neg c]
          congr 1
          omega
      rw [e, List.getD_eq_getElem?_getD, List.getElem?_eq_getElem (show l.length - 1 - p < l.length by omega)] at this
      simpa using this
    · rw [List.getElem?_eq_none (by omega), List.getElem?_eq_none (by rw [List.length_reverse]; omega)]
  intro d
  induction d with
  | zero =>
    intro x i j hd hi hs hj0 hj hij hx hI
    simp only [revB.l0]
    rw [if_neg (by omega), fin x i j (by omega) hi hs hx hI]
  | succ d ih =>
    intro x i j hd hi hs hj0 hj hij hx hI
    simp only [revB.l0]
    by_cases c : i < j
    · rw [if_pos c, if_pos (by omega), if_pos (by omega), if_pos hi, if_pos (by omega)]
      rw [show wrap64 (i + 1) = i + 1 from Go.IntWalk.wrap64_in _ (by omega), show wrap64 (j - 1) = j - 1 from Go.IntWalk.wrap64_in _ (by omega)]
      refine ih _ _ _ (by omega) (by omega) (by omega) (by omega) (by omega) (by omega) (by rw [List.length_set, List.length_set]; exact hx) (fun p hp => ?_)
      have ei := hI i.toNat (by omega)
      have ej := hI j.toNat (by omega)
      rw [if_neg (by omega)] at ei ej
      unfold rdOf
      simp only [List.getD_eq_getElem?_getD, List.getElem?_set, List.length_set]
      by_cases cj : j.toNat = p
      · subst cj
        rw [if_pos rfl, if_pos (by omega), if_pos (by omega)]
        have : l.length - 1 - j.toNat = i.toNat := by omega
        rw [this]
        simpa [List.getD_eq_getElem?_getD] using ei
      · rw [if_neg cj]
        by_cases ci : i.toNat = p
        · subst ci
          rw [if_pos rfl, if_pos (by omega), if_pos (by omega)]
          have : l.length - 1 - i.toNat = j.toNat := by omega
          rw [this]
          simpa [List.getD_eq_getElem?_getD] using ej
        · rw [if_neg ci]
          have := hI p hp
          rw [List.getD_eq_getElem?_getD] at this
          rw [this]
          by_cases c2 : (p : Int) < i ∨ j < (p : Int)
          · rw [if_pos c2, if_pos (by omega), List.getD_eq_getElem?_getD]
          · rw [if_neg c2, if_neg (by omega), List.getD_eq_getElem?_getD]
    · rw [if_neg c, fin x i j c hi hs hx hI]
/-- The cut of a row reversed. -/
def revCut (xs : List Bool) (off m : Nat) : List Bool := splice xs off ((xs.take (off + m)).drop off).reverse
theorem reverse_cut (P0_ : Nat → Prop) (go off m n0 c0 c1 : Nat) (xs : List Bool) (w0 w : World) (hB : Below w0.heap.size w0 w) (ho0 : Kd.R Kd.bool 4 w w0.heap.size P0_ (.slice (some ⟨go, 0, none⟩) n0 c0) xs) (hm0 : 0 < m) (hm : off + m ≤ n0) (hn : n0 ≤ 281474976710656) :
    Calls Try.prog 53 #[.slice (some ⟨go, off, none⟩) m c1] w fun e w' => e = .returned (.tuple #[]) ∧ Kd.R Kd.bool 4 w' w0.heap.size P0_ (.slice (some ⟨go, 0, none⟩) n0 c0) (revCut xs off m) ∧ Below w0.heap.size w0 w' ∧ Kept w w' (fun k_ => P0_ k_) := by
  have hx := (Kd.R_reads' ho0).1
  have hlm : ((xs.take (off + m)).drop off).length = m := by rw [List.length_drop, List.length_take]; omega
  have h := revB.ends ((xs.take (off + m)).drop off) (by omega) m ((xs.take (off + m)).drop off) 0 ((m : Int) - 1) (by omega) (by omega) (by omega) (by omega) (by omega) (by omega) rfl (fun p hp => by rw [if_neg (by omega)])
  refine (revB.cut (m + 1) P0_ go off m n0 c0 c1 xs _ _ w0 w hB ho0 rfl hm0 hm (by rw [hlm, show wrap64 ((m : Int) - 1) = (m : Int) - 1 from Go.IntWalk.wrap64_in _ (by omega)]; exact h)).mono ?_
  rintro e w' ⟨h1, h2, h3, h4, _⟩
  exact ⟨h1, h2, h3, h4⟩
/-- The same, as a walk has the row and its cut. -/
theorem reverse_own (P0_ : Nat → Prop) (A0 A : Option Addr) (off m n0 c0 c1 : Nat) (xs : List Bool) (w0 w : World) (hB : Below w0.heap.size w0 w) (ho0 : Kd.R Kd.bool 4 w w0.heap.size P0_ (.slice A0 n0 c0) xs) (hA : A = if c0 = off then A0 else A0.map (·.add (off * 1))) (hm0 : 0 < m) (hm : off + m ≤ n0) (hn : n0 ≤ 281474976710656) :
    Calls Try.prog 53 #[.slice A m c1] w fun e w' => e = .returned (.tuple #[]) ∧ Kd.R Kd.bool 4 w' w0.heap.size P0_ (.slice A0 n0 c0) (revCut xs off m) ∧ Below w0.heap.size w0 w' ∧ Kept w w' (fun k_ => P0_ k_) := by
  obtain ⟨hxl, hnc, _⟩ := Kd.R_reads' ho0
  have hown := Kd.own_of_R ho0
  rcases hown.2 with ⟨hv, hn0⟩ | ⟨g, cap, cur, hv, hb, hh, hnc', hcm, hcs, htake⟩
  · omega
  · injection hv with ha _ hc
    subst ha; subst hc
    rw [if_neg (by omega)] at hA
    simp only [Option.map_some, Nat.mul_one] at hA
    rw [add_plain] at hA
    subst hA
    exact reverse_cut P0_ g off m n0 c0 c1 xs w0 w hB ho0 hm0 hm hn
end Go.Proofs.Ytcmcmoaikabfoaa.XReverse
