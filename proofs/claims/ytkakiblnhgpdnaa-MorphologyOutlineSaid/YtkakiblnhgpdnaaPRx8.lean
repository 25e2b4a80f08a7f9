-- Written by this session's own program (myprint.py).
import Derived.Test.YtkakiblnhgpdnaaPRx0
import Derived.Test.YtkakiblnhgpdnaaPRx1
import Derived.Test.YtkakiblnhgpdnaaPRx7
namespace Go.Proofs.Ytkakiblnhgpdnaa.PR
open Go.RowKit Go.Proofs.YtkakiblnhgpdnaaW.PrintWords Go.Proofs.YtkakiblnhgpdnaaW.PrintLast Go.Proofs.YtkakiblnhgpdnaaW.PrintMore Go.Proofs.Ytkakiblnhgpdnaa.XWords Go.Proofs.Ytkakiblnhgpdnaa.XShort Go.Proofs.Ytkakiblnhgpdnaa.XFn
attribute [local go_sem] max2_int min2_int max_two min_two max_three min_three max_four min_four   -- for this text's walks alone
set_option linter.unusedVariables false
set_option linter.unusedSimpArgs false

/-! ### morphology_Outline: function 20 -/
/-- Whether all four neighbours of pixel number n are dark. -/
def morphology_Outline.inner (a0_0 a0_1 : Int) (l : List Bool) (n : Nat) : Option Bool := (raster_At.f a0_0 a0_1 l (wrap64 ((n : Int) % a0_0 - 1)) ((n : Int) / a0_0)).bind fun t1 => if t1 = true then ((raster_At.f a0_0 a0_1 l (wrap64 ((n : Int) % a0_0 + 1)) ((n : Int) / a0_0)).bind fun t2 => if t2 = true then ((raster_At.f a0_0 a0_1 l ((n : Int) % a0_0) (wrap64 ((n : Int) / a0_0 - 1))).bind fun t3 => if t3 = true then raster_At.f a0_0 a0_1 l ((n : Int) % a0_0) (wrap64 ((n : Int) / a0_0 + 1)) else some false) else some false) else some false
/-- The rounds over these dark pixels. -/
def morphology_Outline.run (a0_0 a0_1 : Int) (l : List Bool) (ns : List Nat) : List Bool := ns.foldl (fun out n => out.set n (!((morphology_Outline.inner a0_0 a0_1 l n).getD false))) (List.replicate (l.length : Int).toNat false)
/-- The rounds, where what is yielded may be any number: it is the pixel of that number, over the length. -/
def morphology_Outline.go (a0_0 a0_1 : Int) (l : List Bool) (y : List Bool) (ns : List Nat) : List Bool := ns.foldl (fun out n => out.set (n % l.length) (!((morphology_Outline.inner a0_0 a0_1 l (n % l.length)).getD false))) y
theorem morphology_Outline.go_push (a0_0 a0_1 : Int) (l y : List Bool) (ns : List Nat) (n : Nat) : morphology_Outline.go a0_0 a0_1 l y (ns ++ [n]) = (morphology_Outline.go a0_0 a0_1 l y ns).set (n % l.length) (!((morphology_Outline.inner a0_0 a0_1 l (n % l.length)).getD false)) := by
  unfold morphology_Outline.go
  rw [List.foldl_append]
  rfl
theorem morphology_Outline.go_length (a0_0 a0_1 : Int) (l y : List Bool) : ∀ ns : List Nat, ∀ z : List Bool, z.length = y.length → (ns.foldl (fun out n => out.set (n % l.length) (!((morphology_Outline.inner a0_0 a0_1 l (n % l.length)).getD false))) z).length = y.length
  | [], z, h => h
  | n :: ns, z, h => by
    rw [List.foldl_cons]
    exact morphology_Outline.go_length a0_0 a0_1 l y ns _ (by rw [List.length_set]; exact h)
theorem morphology_Outline.darks_lt (l : List Bool) : ∀ k, ∀ n ∈ XPixels.darks l k, n < k
  | 0, n, h => by simp [XPixels.darks] at h
  | k + 1, n, h => by
    rw [XPixels.darks, List.mem_append] at h
    rcases h with h | h
    · have := morphology_Outline.darks_lt l k n h
      omega
    · split at h
      · simp at h; omega
      · cases h
theorem morphology_Outline.go_run (a0_0 a0_1 : Int) (l : List Bool) : ∀ (ns : List Nat) (z : List Bool), (∀ n ∈ ns, n < l.length) → ns.foldl (fun out n => out.set (n % l.length) (!((morphology_Outline.inner a0_0 a0_1 l (n % l.length)).getD false))) z = ns.foldl (fun out n => out.set n (!((morphology_Outline.inner a0_0 a0_1 l n).getD false))) z
  | [], z, h => rfl
  | n :: ns, z, h => by
    rw [List.foldl_cons, List.foldl_cons, Nat.mod_eq_of_lt (h n (by simp))]
    exact morphology_Outline.go_run a0_0 a0_1 l ns _ (fun m hm => h m (by simp [hm]))
theorem morphology_Outline.valid {k : Nat} {a b : Int} {l : List Bool} (h : morphology_check.f k a b l [] = some 0) : raster_Check.f a b l = some 0 := by
  unfold morphology_check.f at h
  obtain ⟨t, ht, h⟩ := Option.bind_eq_some_iff.mp h
  by_cases c : t = 0
  · rw [ht, c]
  · rw [if_neg c] at h
    cases h
theorem morphology_Outline.sizes {a b : Int} {l : List Bool} (h : raster_Check.f a b l = some 0) : 1 ≤ a ∧ a ≤ 4096 := by
  unfold raster_Check.f at h
  obtain ⟨p, hp, h⟩ := Option.bind_eq_some_iff.mp h
  cases p with
  | false => simp at h
  | true =>
    unfold raster_possible.f at hp
    split at hp
    · split at hp
      · exact ⟨by omega, by omega⟩
      · cases hp
    · cases hp
theorem morphology_Outline.row_own {β : Type} {base : Nat} (v : Value) (f : β → List Bool) : Own (fun s W => Kd.R Kd.bool 4 W base (fun k => some k = v.ownBlock) v (f s)) := fun s X Y row hs hg hrow =>
  Kd.R_step hs (fun k hk hlt => hg.block k hlt (fun e' => by
    obtain ⟨o, ho, hc⟩ := hrow k e'.symm
    obtain ⟨cells, hcl⟩ := Kd.R_typed hs k hk.symm
    rw [hcl] at ho
    cases ho
    cases hc))
theorem KeepsOthers.of_below {W W' : World} (h : Below W.heap.size W W') : KeepsOthers W W' := ⟨h.size, fun k o ho _ => (h.block k (blk_lt ho)).trans ho⟩
def morphology_Outline.f (k : Nat) (a0_0 : Int) (a0_1 : Int) (l0_2 : List Bool) : Option (Int × Int × List Bool × Int) := (morphology_check.f k a0_0 a0_1 l0_2 ([] : List Int)).bind fun t => if t = 0 then (if l0_2.length ≤ 140737488351232 ∧ 0 < l0_2.length then (if (List.range l0_2.length).all (fun n => (morphology_Outline.inner a0_0 a0_1 l0_2 n).isSome) = true then some (a0_0, a0_1, morphology_Outline.run a0_0 a0_1 l0_2 (XPixels.darks l0_2 l0_2.length), 0) else none) else none) else some (0, 0, ([] : List Bool), t)
theorem morphology_Outline.mono : ∀ a0 a1 a2 k, LeO (morphology_Outline.f k a0 a1 a2) (morphology_Outline.f (k + 1) a0 a1 a2) := by
  intro a0 a1 a2 k
  unfold morphology_Outline.f
  exact LeO.bind (morphology_check.mono _ _ _ _ _) (fun _ => fun r h => h)
def morphology_Outline.T4 : Bool × List (List Nat × List Nat) := (true, [([], []), ([0], [0]), ([], []), ([2], [2]), ([], []), ([4], [4]), ([5], [5]), ([6, 6], [6]), ([1, 3, 7], [1, 3, 7]), ([], []), ([9, 8, 0, 1, 2, 3, 4, 5, 6, 7, 8, 9], [8, 9])])
def morphology_Outline.B4 : List Nat := [0, 1, 0, 4, 0, 16, 48, 112, 255, 0, 1023]
theorem morphology_Outline.tab4 : rtab .any (opsOf Try.f20 4) = morphology_Outline.T4 := by kernel_rfl
theorem morphology_Outline.bits4 : waitsOk morphology_Outline.T4.2 morphology_Outline.B4 = true := by kernel_rfl
section
open Go.Shelf Go.Proofs.Ytkakiblnhgpdnaa.XPixels
attribute [local go_sem] Oper.semAt_some
set_option maxHeartbeats 8000000 in
set_option maxRecDepth 100000 in
theorem morphology_Outline.calls (k : Nat) (a0_0 : Int) (a0_1 : Int) (A0_2 : Option Addr) (c0_2 : Nat) (l0_2 : List Bool) (r1 : Int) (r2 : Int) (r3 : List Bool) (r4 : Int) (w : World) (hr0_2 : Kd.C Kd.bool w A0_2 l0_2.length l0_2) (hc0_2 : l0_2.length ≤ c0_2) (h : morphology_Outline.f k a0_0 a0_1 l0_2 = some (r1, r2, r3, r4)) :
    Calls Try.prog 20 #[.agg #[.int .i64 a0_0, .int .i64 a0_1, .slice A0_2 l0_2.length c0_2]] w fun e w' => ∃ v2_ : Value, e = .returned (.tuple #[.agg #[.int .i64 r1, .int .i64 r2, v2_], .int .i64 r4]) ∧ Kd.R Kd.bool 4 w' w.heap.size (fun _ => True) v2_ r3 ∧ Below w.heap.size w w' := by
  have hu24 := Try.underlying24
  have HR0_2 := Aside0.mk hr0_2
  have HC0_2 := Aside0.mk hc0_2
  clear hr0_2 hc0_2
  have HB := Aside0.mk (Below.refl w.heap.size w)
  unfold morphology_Outline.f at h
  obtain ⟨t279, A20, H⟩ := Option.bind_eq_some_iff.mp h
  clear h
  have A2 := Aside0.mk A20
  by_cases c3 : t279 = 0
  · rw [if_pos c3] at H
    have c3b0 : (t279 == 0) = true := beq_iff_eq.mpr c3
    have c3b1 : (t279 != 0) = false := bne_eq_false_iff_eq.mpr c3
    rw [c3] at A20
    have HV := Aside0.mk (morphology_Outline.valid A20)
    have HW := Aside0.mk (morphology_Outline.sizes HV.out)
    clear c3 A20
    by_cases hlen0 : l0_2.length ≤ 140737488351232 ∧ 0 < l0_2.length
    · rw [if_pos hlen0] at H
      by_cases hall : (List.range l0_2.length).all (fun n => (morphology_Outline.inner a0_0 a0_1 l0_2 n).isSome) = true
      case neg => rw [if_neg hall] at H; cases H
      rw [if_pos hall] at H
      have hlen1 := hlen0.1
      have HLEN := Aside0.mk hlen0
      have HALL : Aside0 (∀ n, n < l0_2.length → ∃ t, morphology_Outline.inner a0_0 a0_1 l0_2 n = some t) := ⟨fun n hn => Option.isSome_iff_exists.mp (List.all_eq_true.1 hall n (List.mem_range.2 hn))⟩
      clear hall
      simp only [Option.some.injEq, Prod.mk.injEq] at H
      obtain ⟨rfl, rfl, h3r, rfl⟩ := H
      have HR3 := Aside0.mk h3r
      clear h3r
      have c4 : 0 ≤ (l0_2.length : Int) := by omega
      have c5 : ((l0_2.length : Int) : Int).toNat ≤ 281474976710656 := by omega
      have c4b0 := eq_true c4
      have c4b1 : decide (0 ≤ (l0_2.length : Int)) = true := decide_eq_true c4
      have c5b0 := eq_true c5
      have c5b1 : decide (((l0_2.length : Int) : Int).toNat ≤ 281474976710656) = true := decide_eq_true c5
      clear c4 c5 hlen0 hlen1
      obtain ⟨y280, hy280⟩ : ∃ y_ : List Bool, y_ = (List.replicate ((l0_2.length : Int) : Int).toNat false) := ⟨_, rfl⟩
      have Ny280 := Aside0.mk hy280
      clear hy280
      refine (callsIn_wide (n := 5)).1 ?_
      refine callsIn_of_wp_marks Try.func20 rfl trivial ?_ rfl
      refine wpIn_mono (Q := noPanic _) ?_ noPanic_le
      refine wpIn_wide.2 ?_
      simp only [Try.ntmps20, List.size_toArray, List.length_cons, List.length_nil, Nat.reduceAdd, Nat.reduceSub, Array.replicate_succ, Array.replicate_zero, List.push_toArray, List.append_toArray, List.nil_append, List.cons_append]
      try go_wp2_with (first | ((with_reducible refine gate_dst (N := 1) rfl ?_); refine box_event ?hg (N := 1) ?hd (cs := #[.int .i64 a0_0, .int .i64 a0_1, .slice A0_2 l0_2.length c0_2]) (t := 24) ?hr ?_; (case hd => rfl); (case hg => rfl); (case hr => first | (go_simp; done) | (go_simp; rfl)); intro gb277 hg w6 hbox hb; have n0_ := Aside0.mk (below_step (hb0 HB) hb); have n1_ := Aside0.mk (hbox); have n2_ := Aside0.mk ((by rw [hg]; exact (below_size (hb0 HB)) : w.heap.size ≤ gb277)); have n3_ := Aside0.mk ((by rw [hg]; exact (below_size (hb0 HB)) : w.heap.size ≤ gb277)); clear HB; have HB := n0_; have BK277 := n1_; have GW277 := n2_; have GE277 := n3_; clear n0_ n1_ n2_ n3_; clear hb hbox hg) | ((with_reducible refine gate_dst (N := 2) rfl ?_); refine box_event ?hg (N := 2) ?hd (cs := #[.int .i64 0, .int .i64 0, .slice none 0 0]) (t := 24) ?hr ?_; (case hd => rfl); (case hg => rfl); (case hr => first | (go_simp; done) | (go_simp; rfl)); intro gb278 hg w7 hbox hb; have n0_ := Aside0.mk (blk_below (bkx BK277) hb); have n1_ := Aside0.mk (below_step (hb1 HB GE277) hb); have n2_ := Aside0.mk (hbox); have n3_ := Aside0.mk ((by rw [hg]; exact (below_size (hb1 HB GE277)) : w.heap.size ≤ gb278)); have n4_ := Aside0.mk ((by rw [hg]; exact (below_size (hb1 HB GE277)) : w.heap.size ≤ gb278)); have n5_ := Aside0.mk (nel hg BK277 : gb277 ≠ gb278); have n6_ := Aside0.mk (neg hg BK277 : gb278 ≠ gb277); clear BK277; clear HB; have BK277 := n0_; have HB := n1_; have BK278 := n2_; have GW278 := n3_; have GE278 := n4_; have NB277_278 := n5_; have NB278_277 := n6_; clear n0_ n1_ n2_ n3_ n4_ n5_ n6_; clear hb hbox hg; have hnb8 := NB277_278.out; have hnc8 := NB278_277.out; have hcz9_0 : w7.cell? ⟨gb277, 0, none⟩ = some (.int .i64 a0_0) := (blk_cell BK277.out 0).trans rfl; have hcz9_1 : w7.cell? ⟨gb277, 1, none⟩ = some (.int .i64 a0_1) := (blk_cell BK277.out 1).trans rfl; have hcz9_2 : w7.cell? ⟨gb277, 2, none⟩ = some (.slice A0_2 l0_2.length c0_2) := (blk_cell BK277.out 2).trans rfl; have hfz9_0 := blk_frozen BK277.out 0; have hfz9_1 := blk_frozen BK277.out 1; have hfz9_2 := blk_frozen BK277.out 2) | ((with_reducible refine gate_callee (f := 35) rfl ?_); refine goesL_ (some 9) rfl rfl Try.func35 (by kernel_rfl) rfl #[.agg #[.int .i64 a0_0, .int .i64 a0_1, .slice A0_2 l0_2.length c0_2], .slice none 0 0] rfl mapx ?_; (refine (morphology_check.calls k a0_0 a0_1 _ _ l0_2 _ _ ([] : List Int) t279 _ ?side1 ?side2 ?side3 ?side4 A2.out).mono ?_); (case side1 => repeat (first | exact (Kd.C_below HR0_2.out HB.out) | (with_reducible refine Kd.C_alloc ?_ _) | (with_reducible refine Kd.C_drewN ?_ _) | (with_reducible refine Kd.C_drew ?_))); (case side2 => exact HC0_2.out); (case side3 => exact Kd.C_nil _ _); (case side4 => exact Nat.le_refl _); rintro e w10 ⟨rfl, hb⟩; refine ⟨_, rfl, ?_⟩; have n0_ := Aside0.mk (blk_below (bkx BK277) hb); have n1_ := Aside0.mk (blk_below (bkx BK278) hb); have n2_ := Aside0.mk (below_step (hb2 HB GE277 GE278) hb); clear BK277; clear BK278; clear HB; have BK277 := n0_; have BK278 := n1_; have HB := n2_; clear n0_ n1_ n2_; (try clear hb); (try clear hb2); (try clear hk); (try clear hi)))
      have n0_ := Aside0.mk (blk_drew BK277.out)
      have n1_ := Aside0.mk (blk_drew BK278.out)
      have n2_ := Aside0.mk (below_drew1 HB.out)
      clear BK277
      clear BK278
      clear HB
      have BK277 := n0_
      have BK278 := n1_
      have HB := n2_
      clear n0_ n1_ n2_
      refine start_ (n := 11) (S := fun w' => w'.cell? ⟨gb277, 0, none⟩ = some (.int .i64 a0_0) ∧ w'.cell? ⟨gb277, 1, none⟩ = some (.int .i64 a0_1) ∧ w'.cell? ⟨gb277, 2, none⟩ = some (.slice A0_2 l0_2.length c0_2)) (ds := []) (bA 11 0) (by kernel_rfl) rfl rfl ⟨(blk_cell BK277.out 0).trans rfl, (blk_cell BK277.out 1).trans rfl, (blk_cell BK277.out 2).trans rfl⟩ (fun hHeld => ?_); refine with_tabW morphology_Outline.tab4 morphology_Outline.bits4 (fun HT_ HW_ => ?_)
      generalize w10.drew = w11 at BK277 BK278 HB hHeld ⊢
      refine pt HT_ 0 14 ?_
      refine pt HT_ 2 16 ?_
      refine pt HT_ 4 18 ?_
      refine tk HT_ HW_ hHeld 1 15 ?_
      refine tk HT_ HW_ hHeld 3 17 ?_
      refine tk HT_ HW_ hHeld 5 19 ?_
      refine pt HT_ 6 20 ?_
      refine join_ (σ := Value × Nat) 1 (bA 11 1023) (fun s_ => [(21, s_.1), (5, .pointer (some ⟨s_.2, 0, none⟩)), (22, .agg #[.int .i64 a0_0, .int .i64 a0_1, s_.1])]) (fun s_ w' => (w'.cell? ⟨gb277, 0, none⟩ = some (.int .i64 a0_0) ∧ w'.cell? ⟨gb277, 1, none⟩ = some (.int .i64 a0_1) ∧ w'.cell? ⟨gb277, 2, none⟩ = some (.slice A0_2 l0_2.length c0_2)) ∧ (Kd.R Kd.bool 4 w' w.heap.size (fun _ => True) s_.1 y280) ∧ (w'.heap[gb277]? = some (.cells #[.int .i64 a0_0, .int .i64 a0_1, .slice A0_2 l0_2.length c0_2] 24 (0, 0))) ∧ (w'.heap[gb278]? = some (.cells #[.int .i64 0, .int .i64 0, .slice none 0 0] 24 (0, 0))) ∧ (w'.heap[s_.2]? = some (.cells #[.int .i64 0, .int .i64 0, .slice none 0 0] 24 (0, 0))) ∧ (w.heap.size ≤ s_.2) ∧ (w.heap.size ≤ s_.2) ∧ (gb277 ≠ s_.2) ∧ (s_.2 ≠ gb277) ∧ (gb278 ≠ s_.2) ∧ (s_.2 ≠ gb278) ∧ (Below w.heap.size w w')) ?_ ?_
      rotate_left
      · intro hCont
        refine two_ (i := 7) (j := 9) (Ni := some 21) (Nj := some 5) (bA 11 255) (bA 11 639) rfl rfl rfl rfl (two_of HT_.out (by kernel_rfl)) (by decide) (by decide) (fun K hK => ?_) (fun K hK => ?_)
        · skip
          refine Kd.R_make_step Kd.bool _ 4 (by rfl) (N := 21) rfl 22 _ _ rfl (l0_2.length : Int) rfl rfl Try.underlying22 (.bool false) 1 info4 rfl (by decide) (by omega) false (ok := fun _ => True) (okp := fun _ => True) rfl (fun _ hk => hk) trivial (of_decide_eq_true (by first | (with_reducible assumption) | assumption)) (Nat.le_trans (Nat.mul_le_mul_right _ (of_decide_eq_true (by first | (with_reducible assumption) | assumption) : (l0_2.length : Int).toNat ≤ 281474976710656)) (by omega)) (Below.refl _ _) (Nat.le_refl _) ?_
          intro v281 w12 ho13 hb hg_ hnew_
          clear hg_ hnew_
          (first | rw [← Ny280.out] at ho13 | (simp only [Int.reduceToNat] at ho13; rw [← Ny280.out] at ho13))
          have n0_ := Aside0.mk (Kd.R_lower ho13 (below_size (hb2 HB GE277 GE278)))
          have n1_ := Aside0.mk (blk_below (bkx BK277) hb)
          have n2_ := Aside0.mk (blk_below (bkx BK278) hb)
          have n3_ := Aside0.mk (below_step (hb2 HB GE277 GE278) hb)
          clear BK277
          clear BK278
          clear HB
          have HO282 := n0_
          have BK277 := n1_
          have BK278 := n2_
          have HB := n3_
          clear n0_ n1_ n2_ n3_
          clear hb ho13
          obtain ⟨Ao14, co14, eo14⟩ := Kd.R_slice HO282.out
          (first | subst eo14 | (injection eo14 with f1_ f2_ f3_; have f4_ := f1_.symm; have f5_ := f3_.symm; clear f1_ f2_ f3_; subst f4_; subst f5_))
          refine hK.out _ _ ⟨(blk_cell BK277.out 0).trans rfl, (blk_cell BK277.out 1).trans rfl, (blk_cell BK277.out 2).trans rfl⟩ (fun hHeld => ?_)
          clear hK K
          refine norm_ (a' := ?_) ?_ ?_
          rotate_left
          · show Act.put _ (some 21) _ = _
            simp only [Act.put, List.setIfInBounds_toArray, List.set_cons_zero, List.set_cons_succ, i64_w, i32_w]
            rfl
          refine pt HT_ 8 22 ?_
          refine one_ (i := 9) (N := some 5) (bA 11 1023) rfl rfl (one_of HT_.out (by kernel_rfl)) (by decide) (fun K hK => ?_)
          refine box_step ?hg (N := 5) ?hd (cs := #[.int .i64 0, .int .i64 0, .slice none 0 0]) (t := 24) ?hr ?_; (case hd => rfl); (case hg => rfl); (case hr => first | (go_simp; done) | (go_simp; rfl))
          intro gb283 hg w15 hbox hb
          have n0_ := Aside0.mk (Kd.R_below (rkx HO282) hb)
          have n1_ := Aside0.mk (blk_below (bkx BK277) hb)
          have n2_ := Aside0.mk (blk_below (bkx BK278) hb)
          have n3_ := Aside0.mk (below_step (hb2 HB GE277 GE278) hb)
          have n4_ := Aside0.mk (hbox)
          have n5_ := Aside0.mk ((by rw [hg]; exact (below_size (hb2 HB GE277 GE278)) : w.heap.size ≤ gb283))
          have n6_ := Aside0.mk ((by rw [hg]; exact (below_size (hb2 HB GE277 GE278)) : w.heap.size ≤ gb283))
          have n7_ := Aside0.mk (nel hg BK277 : gb277 ≠ gb283)
          have n8_ := Aside0.mk (neg hg BK277 : gb283 ≠ gb277)
          have n9_ := Aside0.mk (nel hg BK278 : gb278 ≠ gb283)
          have n10_ := Aside0.mk (neg hg BK278 : gb283 ≠ gb278)
          clear HO282
          clear BK277
          clear BK278
          clear HB
          have HO282 := n0_
          have BK277 := n1_
          have BK278 := n2_
          have HB := n3_
          have BK283 := n4_
          have GW283 := n5_
          have GE283 := n6_
          have NB277_283 := n7_
          have NB283_277 := n8_
          have NB278_283 := n9_
          have NB283_278 := n10_
          clear n0_ n1_ n2_ n3_ n4_ n5_ n6_ n7_ n8_ n9_ n10_
          clear hb hbox hg
          refine hK.out _ _ ⟨(blk_cell BK277.out 0).trans rfl, (blk_cell BK277.out 1).trans rfl, (blk_cell BK277.out 2).trans rfl⟩ (fun hHeld => ?_)
          clear hK K
          refine norm_ (a' := ?_) ?_ ?_
          rotate_left
          · show Act.put _ (some 5) _ = _
            simp only [Act.put, List.setIfInBounds_toArray, List.set_cons_zero, List.set_cons_succ, i64_w, i32_w]
            rfl
          exact norm_ (by simp only [putAll, Act.put, List.setIfInBounds_toArray, List.set_cons_zero, List.set_cons_succ]) (hCont (.slice Ao14 y280.length co14, gb283) _ ⟨hHeld, (rkx HO282), (bkx BK277), (bkx BK278), (bkx BK283), GW283.out, GE283.out, NB277_283.out, NB283_277.out, NB278_283.out, NB283_278.out, (hb3 HB GE277 GE278 GE283)⟩)
        · skip
          refine box_step ?hg (N := 5) ?hd (cs := #[.int .i64 0, .int .i64 0, .slice none 0 0]) (t := 24) ?hr ?_; (case hd => rfl); (case hg => rfl); (case hr => first | (go_simp; done) | (go_simp; rfl))
          intro gb283 hg w12 hbox hb
          have n0_ := Aside0.mk (blk_below (bkx BK277) hb)
          have n1_ := Aside0.mk (blk_below (bkx BK278) hb)
          have n2_ := Aside0.mk (below_step (hb2 HB GE277 GE278) hb)
          have n3_ := Aside0.mk (hbox)
          have n4_ := Aside0.mk ((by rw [hg]; exact (below_size (hb2 HB GE277 GE278)) : w.heap.size ≤ gb283))
          have n5_ := Aside0.mk ((by rw [hg]; exact (below_size (hb2 HB GE277 GE278)) : w.heap.size ≤ gb283))
          have n6_ := Aside0.mk (nel hg BK277 : gb277 ≠ gb283)
          have n7_ := Aside0.mk (neg hg BK277 : gb283 ≠ gb277)
          have n8_ := Aside0.mk (nel hg BK278 : gb278 ≠ gb283)
          have n9_ := Aside0.mk (neg hg BK278 : gb283 ≠ gb278)
          clear BK277
          clear BK278
          clear HB
          have BK277 := n0_
          have BK278 := n1_
          have HB := n2_
          have BK283 := n3_
          have GW283 := n4_
          have GE283 := n5_
          have NB277_283 := n6_
          have NB283_277 := n7_
          have NB278_283 := n8_
          have NB283_278 := n9_
          clear n0_ n1_ n2_ n3_ n4_ n5_ n6_ n7_ n8_ n9_
          clear hb hbox hg
          refine hK.out _ _ ⟨(blk_cell BK277.out 0).trans rfl, (blk_cell BK277.out 1).trans rfl, (blk_cell BK277.out 2).trans rfl⟩ (fun hHeld => ?_)
          clear hK K
          refine norm_ (a' := ?_) ?_ ?_
          rotate_left
          · show Act.put _ (some 5) _ = _
            simp only [Act.put, List.setIfInBounds_toArray, List.set_cons_zero, List.set_cons_succ, i64_w, i32_w]
            rfl
          refine one_ (i := 7) (N := some 21) (bA 11 767) rfl rfl (one_of HT_.out (by kernel_rfl)) (by decide) (fun K hK => ?_)
          refine Kd.R_make_step Kd.bool _ 4 (by rfl) (N := 21) rfl 22 _ _ rfl (l0_2.length : Int) rfl rfl Try.underlying22 (.bool false) 1 info4 rfl (by decide) (by omega) false (ok := fun _ => True) (okp := fun _ => True) rfl (fun _ hk => hk) trivial (of_decide_eq_true (by first | (with_reducible assumption) | assumption)) (Nat.le_trans (Nat.mul_le_mul_right _ (of_decide_eq_true (by first | (with_reducible assumption) | assumption) : (l0_2.length : Int).toNat ≤ 281474976710656)) (by omega)) (Below.refl _ _) (Nat.le_refl _) ?_
          intro v281 w13 ho14 hb hg_ hnew_
          clear hg_ hnew_
          (first | rw [← Ny280.out] at ho14 | (simp only [Int.reduceToNat] at ho14; rw [← Ny280.out] at ho14))
          have n0_ := Aside0.mk (Kd.R_lower ho14 (below_size (hb3 HB GE277 GE278 GE283)))
          have n1_ := Aside0.mk (blk_below (bkx BK277) hb)
          have n2_ := Aside0.mk (blk_below (bkx BK278) hb)
          have n3_ := Aside0.mk (blk_below (bkx BK283) hb)
          have n4_ := Aside0.mk (below_step (hb3 HB GE277 GE278 GE283) hb)
          clear BK277
          clear BK278
          clear BK283
          clear HB
          have HO282 := n0_
          have BK277 := n1_
          have BK278 := n2_
          have BK283 := n3_
          have HB := n4_
          clear n0_ n1_ n2_ n3_ n4_
          clear hb ho14
          obtain ⟨Ao15, co15, eo15⟩ := Kd.R_slice HO282.out
          (first | subst eo15 | (injection eo15 with f1_ f2_ f3_; have f4_ := f1_.symm; have f5_ := f3_.symm; clear f1_ f2_ f3_; subst f4_; subst f5_))
          refine hK.out _ _ ⟨(blk_cell BK277.out 0).trans rfl, (blk_cell BK277.out 1).trans rfl, (blk_cell BK277.out 2).trans rfl⟩ (fun hHeld => ?_)
          clear hK K
          refine norm_ (a' := ?_) ?_ ?_
          rotate_left
          · show Act.put _ (some 21) _ = _
            simp only [Act.put, List.setIfInBounds_toArray, List.set_cons_zero, List.set_cons_succ, i64_w, i32_w]
            rfl
          refine pt HT_ 8 22 ?_
          exact norm_ (by simp only [putAll, Act.put, List.setIfInBounds_toArray, List.set_cons_zero, List.set_cons_succ]) (hCont (.slice Ao15 y280.length co15, gb283) _ ⟨hHeld, (rkx HO282), (bkx BK277), (bkx BK278), (bkx BK283), GW283.out, GE283.out, NB277_283.out, NB283_277.out, NB278_283.out, NB283_278.out, (hb3 HB GE277 GE278 GE283)⟩)
      rintro ⟨v281, gb283⟩ w16 ⟨hS_, h0_, h1_, h2_, h3_, h4_, h5_, h6_, h7_, h8_, h9_, h10_⟩
      have n0_ : Aside0 (Kd.R Kd.bool 4 w16 w.heap.size (fun _ => True) v281 y280) := ⟨h0_⟩
      have n1_ : Aside0 (w16.heap[gb277]? = some (.cells #[.int .i64 a0_0, .int .i64 a0_1, .slice A0_2 l0_2.length c0_2] 24 (0, 0))) := ⟨h1_⟩
      have n2_ : Aside0 (w16.heap[gb278]? = some (.cells #[.int .i64 0, .int .i64 0, .slice none 0 0] 24 (0, 0))) := ⟨h2_⟩
      have n3_ : Aside0 (w16.heap[gb283]? = some (.cells #[.int .i64 0, .int .i64 0, .slice none 0 0] 24 (0, 0))) := ⟨h3_⟩
      have n4_ : Aside0 (w.heap.size ≤ gb283) := ⟨h4_⟩
      have n5_ : Aside0 (w.heap.size ≤ gb283) := ⟨h5_⟩
      have n6_ : Aside0 (gb277 ≠ gb283) := ⟨h6_⟩
      have n7_ : Aside0 (gb283 ≠ gb277) := ⟨h7_⟩
      have n8_ : Aside0 (gb278 ≠ gb283) := ⟨h8_⟩
      have n9_ : Aside0 (gb283 ≠ gb278) := ⟨h9_⟩
      have n10_ : Aside0 (Below w.heap.size w w16) := ⟨h10_⟩
      clear BK277
      clear BK278
      clear HB
      clear h0_ h1_ h2_ h3_ h4_ h5_ h6_ h7_ h8_ h9_ h10_
      have HO282 := n0_
      have BK277 := n1_
      have BK278 := n2_
      have BK283 := n3_
      have GW283 := n4_
      have GE283 := n5_
      have NB277_283 := n6_
      have NB283_277 := n7_
      have NB278_283 := n8_
      have NB283_278 := n9_
      have HB := n10_
      clear n0_ n1_ n2_ n3_ n4_ n5_ n6_ n7_ n8_ n9_ n10_
      have hHeld : w16.cell? ⟨gb277, 0, none⟩ = some (.int .i64 a0_0) ∧ w16.cell? ⟨gb277, 1, none⟩ = some (.int .i64 a0_1) ∧ w16.cell? ⟨gb277, 2, none⟩ = some (.slice A0_2 l0_2.length c0_2) := hS_
      obtain ⟨Ao17, co17, eo17⟩ := Kd.R_slice HO282.out
      (first | subst eo17 | (injection eo17 with f1_ f2_ f3_; have f4_ := f1_.symm; have f5_ := f3_.symm; clear f1_ f2_ f3_; subst f4_; subst f5_))
      refine norm_ (a' := ?_) ?_ ?_
      rotate_left
      · simp only [putAll, Act.put, List.setIfInBounds_toArray, List.set_cons_zero, List.set_cons_succ]
        rfl
      refine one_ (i := 10) (N := none) (bA 11 2047) rfl rfl (one_of HT_.out (by kernel_rfl)) (by decide) (fun K hK => ?_)
      have hs18 : w16.cell? ⟨gb283, 0, none⟩ = some (.int .i64 0) := (blk_cell BK283.out 0).trans rfl
      have hfs18 := blk_frozen BK283.out 0
      have hns18_0 := NB277_283.out
      have hns18_1 := NB278_283.out
      have hms18_0 := NB283_277.out
      have hms18_1 := NB283_278.out
      have hs19 : w16.cell? ⟨gb283, 1, none⟩ = some (.int .i64 0) := (blk_cell BK283.out 1).trans rfl
      have hfs19 := blk_frozen BK283.out 1
      have hns19_0 := NB277_283.out
      have hns19_1 := NB278_283.out
      have hms19_0 := NB283_277.out
      have hms19_1 := NB283_278.out
      have hs20 : w16.cell? ⟨gb283, 2, none⟩ = some (.slice none 0 0) := (blk_cell BK283.out 2).trans rfl
      have hfs20 := blk_frozen BK283.out 2
      have hns20_0 := NB277_283.out
      have hns20_1 := NB278_283.out
      have hms20_0 := NB283_277.out
      have hms20_1 := NB283_278.out
      refine skip_ (w1 := ?_) (by rfl) rfl ?_ ?_
      rotate_left
      · go_simp
        rfl
      refine hK.out _ _ ⟨((cell_far (p := ⟨gb283, _, none⟩) NB277_283.out _).trans (((cell_far (p := ⟨gb283, _, none⟩) NB277_283.out _).trans (((cell_far (p := ⟨gb283, _, none⟩) NB277_283.out _).trans (hHeld.1)))))), ((cell_far (p := ⟨gb283, _, none⟩) NB277_283.out _).trans (((cell_far (p := ⟨gb283, _, none⟩) NB277_283.out _).trans (((cell_far (p := ⟨gb283, _, none⟩) NB277_283.out _).trans (hHeld.2.1)))))), ((cell_far (p := ⟨gb283, _, none⟩) NB277_283.out _).trans (((cell_far (p := ⟨gb283, _, none⟩) NB277_283.out _).trans (((cell_far (p := ⟨gb283, _, none⟩) NB277_283.out _).trans (hHeld.2.2))))))⟩ (fun hHeld => ?_)
      clear hK K
      refine done_ (done_of HT_.out (by kernel_rfl)) ?_
      have hnb21 := NB283_277.out
      have hnc21 := NB277_283.out
      have hnb22 := NB283_278.out
      have hnc22 := NB278_283.out
      have hcz23_0 : w16.cell? ⟨gb283, 0, none⟩ = some (.int .i64 0) := (blk_cell BK283.out 0).trans rfl
      have hcz23_1 : w16.cell? ⟨gb283, 1, none⟩ = some (.int .i64 0) := (blk_cell BK283.out 1).trans rfl
      have hcz23_2 : w16.cell? ⟨gb283, 2, none⟩ = some (.slice none 0 0) := (blk_cell BK283.out 2).trans rfl
      have hfz23_0 := blk_frozen BK283.out 0
      have hfz23_1 := blk_frozen BK283.out 1
      have hfz23_2 := blk_frozen BK283.out 2
      have hcz24_0 : w16.cell? ⟨gb278, 0, none⟩ = some (.int .i64 0) := (blk_cell BK278.out 0).trans rfl
      have hcz24_1 : w16.cell? ⟨gb278, 1, none⟩ = some (.int .i64 0) := (blk_cell BK278.out 1).trans rfl
      have hcz24_2 : w16.cell? ⟨gb278, 2, none⟩ = some (.slice none 0 0) := (blk_cell BK278.out 2).trans rfl
      have hfz24_0 := blk_frozen BK278.out 0
      have hfz24_1 := blk_frozen BK278.out 1
      have hfz24_2 := blk_frozen BK278.out 2
      obtain ⟨W5, hW5⟩ : ∃ W5, (((w16.setCell ⟨gb283, 0, none⟩ (.int .i64 a0_0)).setCell ⟨gb283, 1, none⟩ (.int .i64 a0_1)).setCell ⟨gb283, 2, none⟩ (.slice Ao17 y280.length co17)) = W5 := ⟨_, rfl⟩
      have HM5 : Aside0 (W5.heap[gb277]? = some (.cells #[.int .i64 a0_0, .int .i64 a0_1, .slice A0_2 l0_2.length c0_2] 24 (0, 0))) := ⟨by rw [← hW5]; exact (bky BK277 NB277_283)⟩
      have HZ5 : Aside0 (W5.heap[gb278]? = some (.cells #[.int .i64 0, .int .i64 0, .slice none 0 0] 24 (0, 0))) := ⟨by rw [← hW5]; exact (bky BK278 NB278_283)⟩
      have HO5 : Aside0 (Kd.R Kd.bool 4 W5 w.heap.size (fun k_ => some k_ = (Value.slice Ao17 y280.length co17).ownBlock) (.slice Ao17 y280.length co17) y280) := ⟨by rw [← hW5]; exact Kd.R_tight rfl (far3 HO282 BK283)⟩
      have HU5 : Aside0 (W5.heap[gb283]? = some (.cells #[.int .i64 a0_0, .int .i64 a0_1, .slice Ao17 y280.length co17] 24 (0, 0))) := ⟨by
        rw [← hW5]
        refine blk_put (cs := #[.int .i64 a0_0, .int .i64 a0_1, .slice none 0 0]) ?_ 2 _ rfl
        refine blk_put (cs := #[.int .i64 a0_0, .int .i64 0, .slice none 0 0]) ?_ 1 _ rfl
        refine blk_put (cs := #[.int .i64 0, .int .i64 0, .slice none 0 0]) ?_ 0 _ rfl
        exact BK283.out⟩
      have HB5 : Aside0 (Below w.heap.size w W5) := ⟨by rw [← hW5]; exact (hb3 HB GE277 GE278 GE283)⟩
      rw [hW5]
      clear hW5 HO282 BK277 BK278 BK283 HB hHeld HT_ HW_ hs18 hfs18 hns18_0 hns18_1 hms18_0 hms18_1 hs19 hfs19 hns19_0 hns19_1 hms19_0 hms19_1 hs20 hfs20 hns20_0 hns20_1 hms20_0 hms20_1 hnb21 hnc21 hnb22 hnc22 hcz23_0 hcz23_1 hcz23_2 hfz23_0 hfz23_1 hfz23_2 hcz24_0 hcz24_1 hcz24_2 hfz24_0 hfz24_1 hfz24_2 hcz9_0 hcz9_1 hcz9_2 hfz9_0 hfz9_1 hfz9_2 hnb8 hnc8
      have HYL : Aside0 (y280.length = l0_2.length) := ⟨by rw [Ny280.out]; simp⟩
      obtain ⟨go9, co9, eo9, gb9, gl9, cl9, HG9⟩ := Kd.R_form HO5.out (by rw [HYL.out]; exact HLEN.out.2)
      injection eo9 with ea9 en9 ec9
      clear en9 ec9
      subst ea9
      have GB9 := Aside0.mk gb9
      have GL9 := Aside0.mk gl9
      have N4 : Aside0 (gb277 ≠ go9) := ⟨blk_ne HM5.out HG9 (by decide)⟩
      have N5 : Aside0 (gb278 ≠ go9) := ⟨blk_ne HZ5.out HG9 (by decide)⟩
      have N6 : Aside0 (gb283 ≠ go9) := ⟨blk_ne HU5.out HG9 (by decide)⟩
      clear gb9 gl9 HG9
      have hm0 : W5.cell? ⟨gb277, 0, none⟩ = some (.int .i64 a0_0) := (blk_cell HM5.out 0).trans rfl
      have hm1 : W5.cell? ⟨gb277, 1, none⟩ = some (.int .i64 a0_1) := (blk_cell HM5.out 1).trans rfl
      have hm2 : W5.cell? ⟨gb277, 2, none⟩ = some (.slice A0_2 l0_2.length c0_2) := (blk_cell HM5.out 2).trans rfl
      go_wp2_with (go_at_call 42; refine (pixels_calls 0 a0_0 a0_1 A0_2 c0_2 l0_2.length _ (fun w1 hw1 => raster_Check.calls a0_0 a0_1 A0_2 c0_2 l0_2 0 w1 (Kd.C_below HR0_2.out (below_then HB5.out HB5.out.size hw1)) HC0_2.out HV.out)).mono ?_; rintro e W6 ⟨Bv, Bm, rfl, hb6, hbv, hbm, hv6, hm6⟩; have HB6 := Aside0.mk hb6; have HV6 := Aside0.mk hv6; have HM6 := Aside0.mk hm6; clear hb6 hv6 hm6)
      refine (wpIn_wide (n := 5)).1 ?_
      have hsz := blk_lt HM5.out
      have hsy := blk_lt HZ5.out
      have hsx := blk_lt HU5.out
      have hsv := blk_lt HV6.out
      have hsm := blk_lt HM6.out
      have hB6 := HB6.out.size
      have hB06 : Below w.heap.size w W6 := below_then HB5.out HB5.out.size HB6.out
      have hlenp := HLEN.out.2
      refine wpIn_rangeFunc_ownH rfl (by decide) (gf := 53) (lb := #[.pointer (some ⟨Bv, 0, none⟩), .pointer (some ⟨Bm, 0, none⟩)]) rfl trivial (enters_of Try.func53 (by kernel_rfl) rfl)
        (pixels_marks 4 Bv Bm a0_0 a0_1 A0_2 c0_2 l0_2 HW.out.1 HW.out.2 HLEN.out.1 w HR0_2.out W6 hB06 HV6.out HM6.out) PK.trans (pk_putObj hB06.size hsv hsm) (Below.refl _ _) (fun _ => rfl)
        (fun pre W => (W.heap[gb277]? = some (.cells #[.int .i64 a0_0, .int .i64 a0_1, .slice A0_2 l0_2.length c0_2] 24 (0, 0)) ∧ W.heap[gb278]? = some (.cells #[.int .i64 0, .int .i64 0, .slice none 0 0] 24 (0, 0)) ∧ W.heap[gb283]? = some (.cells #[.int .i64 a0_0, .int .i64 a0_1, .slice (some ⟨go9, 0, none⟩) y280.length co17] 24 (0, 0)) ∧ Kd.R Kd.bool 4 W w.heap.size (fun k_ => some k_ = (Value.slice (some ⟨go9, 0, none⟩) y280.length co17).ownBlock) (.slice (some ⟨go9, 0, none⟩) y280.length co17) (morphology_Outline.go a0_0 a0_1 l0_2 y280 pre)) ∧ (Below w.heap.size w W ∧ W6.heap.size ≤ W.heap.size))
        (fun _ _ _ => False)
        ?hI (fun _ _ _ _ _ hs _ _ => hs) ?h0
        (fun x a' W => ∃ Bx, W6.heap.size ≤ Bx ∧ W.heap[Bx]? = some (.cells #[.int .i64 (px a0_0 l0_2.length x), .int .i64 (py a0_0 l0_2.length x)] 60 (0, 0)) ∧ a' = { tmps := #[.agg #[.int .i64 a0_0, .int .i64 a0_1, .slice A0_2 l0_2.length c0_2], .pointer (some ⟨gb277, 0, none⟩), .pointer (some ⟨gb278, 0, none⟩), .int .i64 0, .int .i64 t279, .pointer (some ⟨gb283, 0, none⟩), .pointer (some ⟨Bx, 0, none⟩), undef, .agg #[.int .i64 a0_0, .int .i64 a0_1, .slice A0_2 l0_2.length c0_2], .int .i64 t279, .int .i64 t279, .bool false, undef, undef, .pointer (some ⟨gb277, 0, none⟩), .int .i64 a0_0, .pointer (some ⟨gb277, 1, none⟩), .int .i64 a0_1, .pointer (some ⟨gb277, 2, none⟩), .slice A0_2 l0_2.length c0_2, .int .i64 l0_2.length, .slice (some ⟨go9, 0, none⟩) y280.length co17, .agg #[.int .i64 a0_0, .int .i64 a0_1, .slice (some ⟨go9, 0, none⟩) y280.length co17], .agg #[.int .i64 a0_0, .int .i64 a0_1, .slice A0_2 l0_2.length c0_2], .func (.func 53) #[] #[.pointer (some ⟨Bv, 0, none⟩), .pointer (some ⟨Bm, 0, none⟩)], .agg #[.int .i64 (px a0_0 l0_2.length x), .int .i64 (py a0_0 l0_2.length x)], undef, undef, undef, undef, undef, undef, undef, undef, undef, undef, undef, undef, undef, undef, undef, undef, undef, undef, undef, undef, undef, undef, undef, undef, undef, undef, undef, undef, undef, undef, undef, undef, undef, undef, undef, undef, undef, undef, undef, undef, undef, undef, undef, undef, undef, undef, undef, undef], defers := [] })
        (fun x a' _ X Y row hs hg hr => by obtain ⟨Bx, h1, h2, h3⟩ := hs; exact ⟨Bx, h1, cells_own Bx 60 (fun (_ : Unit) => #[Value.int .i64 (px a0_0 l0_2.length x), Value.int .i64 (py a0_0 l0_2.length x)]) () X Y row h2 hg (fun r e => (hr r e).2), h3⟩)
        ?assign ?body ?done ?stop
      case hI =>
        refine OwnFrom.and (OwnFrom.and (Own.from (cells_own _ _ _) _) (OwnFrom.and (Own.from (cells_own _ _ _) _) (OwnFrom.and (Own.from (cells_own _ _ _) _) (Own.from (morphology_Outline.row_own _ _) _)))) (OwnFrom.and (ownFrom_below (Nat.le_refl _) hB06.size) ?_)
        exact fun s X Y row hs hg hr => Nat.le_trans hs hg.size
      case h0 =>
        exact ⟨⟨blk_below HM5.out HB6.out, blk_below HZ5.out HB6.out, blk_below HU5.out HB6.out, Kd.R_below HO5.out HB6.out⟩, hB06, Nat.le_refl _⟩
      case assign =>
        rintro l pre x W K ⟨⟨y4, y5, y6, y7⟩, hB1, hle⟩ hK
        have K1 := Aside0.mk hK
        have Y4 := Aside0.mk y4
        have Y5 := Aside0.mk y5
        have Y6 := Aside0.mk y6
        have Y7 := Aside0.mk y7
        have HB1 := Aside0.mk hB1
        clear hK y4 y5 y6 y7 hB1
        gi_wp2
        refine K1.out _ _ ((KeepsOthers.alloc _ _).from _) ⟨(Below.refl _ W).alloc HB1.out.size _, ?_, ?_⟩ ⟨⟨blk_alloc Y4.out _, blk_alloc Y5.out _, blk_alloc Y6.out _, Kd.R_alloc Y7.out _⟩, HB1.out.alloc HB1.out.size _, by simp; omega⟩ ⟨W.heap.size, hle, blk_new _ _, rfl⟩
        · exact Below.heap_alloc W _ Bv (by omega)
        · exact Below.heap_alloc W _ Bm (by omega)
      case body =>
        rintro l pre x a' W hl ⟨r, hr⟩ ⟨⟨y4, y5, y6, y7⟩, hB1, hle⟩ ⟨Bx, hBx, bX, rfl⟩ hlt
        have Y4 := Aside0.mk y4
        have Y5 := Aside0.mk y5
        have Y6 := Aside0.mk y6
        have Y7 := Aside0.mk y7
        have HB1 := Aside0.mk hB1
        have HLE := Aside0.mk hle
        obtain ⟨kx, hkx⟩ : ∃ kx, x % l0_2.length = kx := ⟨_, rfl⟩
        have hk1 : kx < l0_2.length := by rw [← hkx]; exact Nat.mod_lt _ hlenp
        obtain ⟨tt, ht⟩ := HALL.out kx hk1
        obtain ⟨X, hX⟩ : ∃ X, px a0_0 l0_2.length x = X := ⟨_, rfl⟩
        obtain ⟨Y, hY⟩ : ∃ Y, py a0_0 l0_2.length x = Y := ⟨_, rfl⟩
        have hX2 : ((kx : Nat) : Int) % a0_0 = X := by rw [← hX, ← hkx]; rfl
        have hY2 : ((kx : Nat) : Int) / a0_0 = Y := by rw [← hY, ← hkx]; rfl
        rw [hX, hY] at bX
        rw [hX, hY]
        have BX := Aside0.mk bX
        have HT : Aside0 (morphology_Outline.inner a0_0 a0_1 l0_2 kx = some tt) := ⟨ht⟩
        have HKX := Aside0.mk hkx
        unfold morphology_Outline.inner at ht
        rw [hX2, hY2] at ht
        have hIX0 : wrap64 (wrap64 (Y * a0_0) + X) = (kx : Int) := by
          have e := Int.mul_ediv_add_emod (kx : Int) a0_0
          have h1 := HW.out.1
          have hX0 : 0 ≤ X := by rw [← hX2]; exact Int.emod_nonneg _ (by omega)
          have hY0 : 0 ≤ Y := by rw [← hY2]; exact Int.ediv_nonneg (by omega) (by omega)
          rw [hX2, hY2, Int.mul_comm] at e
          have hYa : 0 ≤ Y * a0_0 := Int.mul_nonneg hY0 (by omega)
          have hl2 := HLEN.out.1
          rw [Go.IntWalk.wrap64_in (Y * a0_0) (by omega), Go.IntWalk.wrap64_in _ (by omega), e]
        obtain ⟨IX, hIX⟩ : ∃ j_ : Int, wrap64 (wrap64 (Y * a0_0) + X) = j_ := ⟨_, rfl⟩
        have hIXw : (IntKind.i64.wrap ((wrap64 (Y * a0_0)) + X)) = IX := (i64_w _).trans hIX
        have hIK : IX = (kx : Int) := hIX.symm.trans hIX0
        have HIK := Aside0.mk hIK
        have PI : Aside0 (0 ≤ IX) := ⟨by omega⟩
        have QI : Aside0 (IX < (y280.length : Int)) := ⟨by rw [HYL.out]; omega⟩
        have pI := eq_true PI.out
        have qI := eq_true QI.out
        have HBV : Aside0 (Bv < W.heap.size) := ⟨by omega⟩
        have HBM : Aside0 (Bm < W.heap.size) := ⟨by omega⟩
        have HBV9 : Aside0 (Bv ≠ go9) := ⟨by have := GL9.out; omega⟩
        have HBM9 : Aside0 (Bm ≠ go9) := ⟨by have := GL9.out; omega⟩
        have HAT : Aside0 (∀ (x y : Int) (r : Bool) (W' : World), Below w.heap.size w W' → raster_At.f a0_0 a0_1 l0_2 x y = some r → Calls Try.prog 28 #[.agg #[.int .i64 a0_0, .int .i64 a0_1, .slice A0_2 l0_2.length c0_2], .int .i64 x, .int .i64 y] W' fun e w' => e = .returned (.bool r) ∧ Below W'.heap.size W' w') := ⟨fun x y r W' hb h => raster_At.calls a0_0 a0_1 A0_2 c0_2 l0_2 x y r W' (Kd.C_below HR0_2.out hb) HC0_2.out h⟩
        have BW := Aside0.mk (Below.refl W.heap.size W)
        have hcm0 : W.cell? ⟨gb277, 0, none⟩ = some (.int .i64 a0_0) := (blk_cell Y4.out 0).trans rfl; have hcm1 : W.cell? ⟨gb277, 1, none⟩ = some (.int .i64 a0_1) := (blk_cell Y4.out 1).trans rfl; have hcm2 : W.cell? ⟨gb277, 2, none⟩ = some (.slice A0_2 l0_2.length c0_2) := (blk_cell Y4.out 2).trans rfl; have hcb0 : W.cell? ⟨Bx, 0, none⟩ = some (.int .i64 X) := (blk_cell BX.out 0).trans rfl; have hcb1 : W.cell? ⟨Bx, 1, none⟩ = some (.int .i64 Y) := (blk_cell BX.out 1).trans rfl; have hcu2 : W.cell? ⟨gb283, 2, none⟩ = some (.slice (some ⟨go9, 0, none⟩) y280.length co17) := (blk_cell Y6.out 2).trans rfl; obtain ⟨hx0, hf0⟩ := Kd.R_celln false Y7.out IX PI.out QI.out
        clear y4 y5 y6 y7 bX hB1 hX hY hX2 hY2 hIX0 hIK hkx hk1 hm0 hm1 hm2 hHeld hIX
        obtain ⟨t1, h1, ht⟩ := Option.bind_eq_some_iff.mp ht
        have H1 := Aside0.mk h1
        clear h1
        cases t1 with
        | false =>
          rw [if_neg (by decide)] at ht
          obtain rfl := Option.some.inj ht
          clear ht
          gi_wp2_with (first | (refine ⟨trivial, ?_⟩; gi_at_call 28; refine (CallsIn.inRound l (callsIn_wide.2 (HAT.out _ _ _ _ (below_then HB1.out HB1.out.size BW.out) (by first | exact H1.out | exact H2.out | exact H3.out | exact H4.out)))).mono ?_; rintro e w1 ⟨rfl, hb⟩; have BW2 := Aside0.mk (below_then BW.out BW.out.size hb); clear BW hx0 hf0 hcm0 hcm1 hcm2 hcb0 hcb1 hcu2; have BW := BW2; clear BW2 hb; have hcm0 : w1.cell? ⟨gb277, 0, none⟩ = some (.int .i64 a0_0) := (blk_cell (blk_below Y4.out BW.out) 0).trans rfl; have hcm1 : w1.cell? ⟨gb277, 1, none⟩ = some (.int .i64 a0_1) := (blk_cell (blk_below Y4.out BW.out) 1).trans rfl; have hcm2 : w1.cell? ⟨gb277, 2, none⟩ = some (.slice A0_2 l0_2.length c0_2) := (blk_cell (blk_below Y4.out BW.out) 2).trans rfl; have hcb0 : w1.cell? ⟨Bx, 0, none⟩ = some (.int .i64 X) := (blk_cell (blk_below BX.out BW.out) 0).trans rfl; have hcb1 : w1.cell? ⟨Bx, 1, none⟩ = some (.int .i64 Y) := (blk_cell (blk_below BX.out BW.out) 1).trans rfl; have hcu2 : w1.cell? ⟨gb283, 2, none⟩ = some (.slice (some ⟨go9, 0, none⟩) y280.length co17) := (blk_cell (blk_below Y6.out BW.out) 2).trans rfl; obtain ⟨hx0, hf0⟩ := Kd.R_celln false (Kd.R_below Y7.out BW.out) IX PI.out QI.out) | (refine And.intro (show Fence.wide.fn 28 from trivial) ?_))
          have hP := Kd.R_putn (Kd.R_below Y7.out BW.out) IX true
          rw [HIK.out, Int.toNat_natCast] at hP ⊢
          have hset : morphology_Outline.go a0_0 a0_1 l0_2 y280 (pre ++ [x]) = (morphology_Outline.go a0_0 a0_1 l0_2 y280 pre).set kx true := by rw [morphology_Outline.go_push, HKX.out, HT.out]; rfl
          refine ⟨((KeepsOthers.of_below BW.out).trans (KeepsOthers.setCell _ _ _)).from _, ⟨(BW.out.mono HB1.out.size).setCell (p := ⟨go9, kx, none⟩) (show w.heap.size ≤ go9 from GB9.out) _, (Below.heap_setCell _ ⟨go9, kx, none⟩ _ _ (show Bv ≠ go9 from HBV9.out)).trans (BW.out.block Bv HBV.out), (Below.heap_setCell _ ⟨go9, kx, none⟩ _ _ (show Bm ≠ go9 from HBM9.out)).trans (BW.out.block Bm HBM.out)⟩, ⟨⟨blk_far (p := ⟨go9, kx, none⟩) (blk_below Y4.out BW.out) (show gb277 ≠ go9 from N4.out) _, blk_far (p := ⟨go9, kx, none⟩) (blk_below Y5.out BW.out) (show gb278 ≠ go9 from N5.out) _, blk_far (p := ⟨go9, kx, none⟩) (blk_below Y6.out BW.out) (show gb283 ≠ go9 from N6.out) _, by rw [hset]; exact hP⟩, (below_then HB1.out HB1.out.size BW.out).setCell (p := ⟨go9, kx, none⟩) (show w.heap.size ≤ go9 from GB9.out) _, Nat.le_trans HLE.out (Nat.le_trans BW.out.size (by simp))⟩⟩
        | true =>
          rw [if_pos rfl] at ht
          obtain ⟨t2, h2, ht⟩ := Option.bind_eq_some_iff.mp ht
          have H2 := Aside0.mk h2
          clear h2
          cases t2 with
          | false =>
            rw [if_neg (by decide)] at ht
            obtain rfl := Option.some.inj ht
            clear ht
            gi_wp2_with (first | (refine ⟨trivial, ?_⟩; gi_at_call 28; refine (CallsIn.inRound l (callsIn_wide.2 (HAT.out _ _ _ _ (below_then HB1.out HB1.out.size BW.out) (by first | exact H1.out | exact H2.out | exact H3.out | exact H4.out)))).mono ?_; rintro e w1 ⟨rfl, hb⟩; have BW2 := Aside0.mk (below_then BW.out BW.out.size hb); clear BW hx0 hf0 hcm0 hcm1 hcm2 hcb0 hcb1 hcu2; have BW := BW2; clear BW2 hb; have hcm0 : w1.cell? ⟨gb277, 0, none⟩ = some (.int .i64 a0_0) := (blk_cell (blk_below Y4.out BW.out) 0).trans rfl; have hcm1 : w1.cell? ⟨gb277, 1, none⟩ = some (.int .i64 a0_1) := (blk_cell (blk_below Y4.out BW.out) 1).trans rfl; have hcm2 : w1.cell? ⟨gb277, 2, none⟩ = some (.slice A0_2 l0_2.length c0_2) := (blk_cell (blk_below Y4.out BW.out) 2).trans rfl; have hcb0 : w1.cell? ⟨Bx, 0, none⟩ = some (.int .i64 X) := (blk_cell (blk_below BX.out BW.out) 0).trans rfl; have hcb1 : w1.cell? ⟨Bx, 1, none⟩ = some (.int .i64 Y) := (blk_cell (blk_below BX.out BW.out) 1).trans rfl; have hcu2 : w1.cell? ⟨gb283, 2, none⟩ = some (.slice (some ⟨go9, 0, none⟩) y280.length co17) := (blk_cell (blk_below Y6.out BW.out) 2).trans rfl; obtain ⟨hx0, hf0⟩ := Kd.R_celln false (Kd.R_below Y7.out BW.out) IX PI.out QI.out) | (refine And.intro (show Fence.wide.fn 28 from trivial) ?_))
            have hP := Kd.R_putn (Kd.R_below Y7.out BW.out) IX true
            rw [HIK.out, Int.toNat_natCast] at hP ⊢
            have hset : morphology_Outline.go a0_0 a0_1 l0_2 y280 (pre ++ [x]) = (morphology_Outline.go a0_0 a0_1 l0_2 y280 pre).set kx true := by rw [morphology_Outline.go_push, HKX.out, HT.out]; rfl
            refine ⟨((KeepsOthers.of_below BW.out).trans (KeepsOthers.setCell _ _ _)).from _, ⟨(BW.out.mono HB1.out.size).setCell (p := ⟨go9, kx, none⟩) (show w.heap.size ≤ go9 from GB9.out) _, (Below.heap_setCell _ ⟨go9, kx, none⟩ _ _ (show Bv ≠ go9 from HBV9.out)).trans (BW.out.block Bv HBV.out), (Below.heap_setCell _ ⟨go9, kx, none⟩ _ _ (show Bm ≠ go9 from HBM9.out)).trans (BW.out.block Bm HBM.out)⟩, ⟨⟨blk_far (p := ⟨go9, kx, none⟩) (blk_below Y4.out BW.out) (show gb277 ≠ go9 from N4.out) _, blk_far (p := ⟨go9, kx, none⟩) (blk_below Y5.out BW.out) (show gb278 ≠ go9 from N5.out) _, blk_far (p := ⟨go9, kx, none⟩) (blk_below Y6.out BW.out) (show gb283 ≠ go9 from N6.out) _, by rw [hset]; exact hP⟩, (below_then HB1.out HB1.out.size BW.out).setCell (p := ⟨go9, kx, none⟩) (show w.heap.size ≤ go9 from GB9.out) _, Nat.le_trans HLE.out (Nat.le_trans BW.out.size (by simp))⟩⟩
          | true =>
            rw [if_pos rfl] at ht
            obtain ⟨t3, h3, ht⟩ := Option.bind_eq_some_iff.mp ht
            have H3 := Aside0.mk h3
            clear h3
            cases t3 with
            | false =>
              rw [if_neg (by decide)] at ht
              obtain rfl := Option.some.inj ht
              clear ht
              gi_wp2_with (first | (refine ⟨trivial, ?_⟩; gi_at_call 28; refine (CallsIn.inRound l (callsIn_wide.2 (HAT.out _ _ _ _ (below_then HB1.out HB1.out.size BW.out) (by first | exact H1.out | exact H2.out | exact H3.out | exact H4.out)))).mono ?_; rintro e w1 ⟨rfl, hb⟩; have BW2 := Aside0.mk (below_then BW.out BW.out.size hb); clear BW hx0 hf0 hcm0 hcm1 hcm2 hcb0 hcb1 hcu2; have BW := BW2; clear BW2 hb; have hcm0 : w1.cell? ⟨gb277, 0, none⟩ = some (.int .i64 a0_0) := (blk_cell (blk_below Y4.out BW.out) 0).trans rfl; have hcm1 : w1.cell? ⟨gb277, 1, none⟩ = some (.int .i64 a0_1) := (blk_cell (blk_below Y4.out BW.out) 1).trans rfl; have hcm2 : w1.cell? ⟨gb277, 2, none⟩ = some (.slice A0_2 l0_2.length c0_2) := (blk_cell (blk_below Y4.out BW.out) 2).trans rfl; have hcb0 : w1.cell? ⟨Bx, 0, none⟩ = some (.int .i64 X) := (blk_cell (blk_below BX.out BW.out) 0).trans rfl; have hcb1 : w1.cell? ⟨Bx, 1, none⟩ = some (.int .i64 Y) := (blk_cell (blk_below BX.out BW.out) 1).trans rfl; have hcu2 : w1.cell? ⟨gb283, 2, none⟩ = some (.slice (some ⟨go9, 0, none⟩) y280.length co17) := (blk_cell (blk_below Y6.out BW.out) 2).trans rfl; obtain ⟨hx0, hf0⟩ := Kd.R_celln false (Kd.R_below Y7.out BW.out) IX PI.out QI.out) | (refine And.intro (show Fence.wide.fn 28 from trivial) ?_))
              have hP := Kd.R_putn (Kd.R_below Y7.out BW.out) IX true
              rw [HIK.out, Int.toNat_natCast] at hP ⊢
              have hset : morphology_Outline.go a0_0 a0_1 l0_2 y280 (pre ++ [x]) = (morphology_Outline.go a0_0 a0_1 l0_2 y280 pre).set kx true := by rw [morphology_Outline.go_push, HKX.out, HT.out]; rfl
              refine ⟨((KeepsOthers.of_below BW.out).trans (KeepsOthers.setCell _ _ _)).from _, ⟨(BW.out.mono HB1.out.size).setCell (p := ⟨go9, kx, none⟩) (show w.heap.size ≤ go9 from GB9.out) _, (Below.heap_setCell _ ⟨go9, kx, none⟩ _ _ (show Bv ≠ go9 from HBV9.out)).trans (BW.out.block Bv HBV.out), (Below.heap_setCell _ ⟨go9, kx, none⟩ _ _ (show Bm ≠ go9 from HBM9.out)).trans (BW.out.block Bm HBM.out)⟩, ⟨⟨blk_far (p := ⟨go9, kx, none⟩) (blk_below Y4.out BW.out) (show gb277 ≠ go9 from N4.out) _, blk_far (p := ⟨go9, kx, none⟩) (blk_below Y5.out BW.out) (show gb278 ≠ go9 from N5.out) _, blk_far (p := ⟨go9, kx, none⟩) (blk_below Y6.out BW.out) (show gb283 ≠ go9 from N6.out) _, by rw [hset]; exact hP⟩, (below_then HB1.out HB1.out.size BW.out).setCell (p := ⟨go9, kx, none⟩) (show w.heap.size ≤ go9 from GB9.out) _, Nat.le_trans HLE.out (Nat.le_trans BW.out.size (by simp))⟩⟩
            | true =>
              rw [if_pos rfl] at ht
              have H4 := Aside0.mk ht
              clear ht
              cases tt with
              | false =>
                gi_wp2_with (first | (refine ⟨trivial, ?_⟩; gi_at_call 28; refine (CallsIn.inRound l (callsIn_wide.2 (HAT.out _ _ _ _ (below_then HB1.out HB1.out.size BW.out) (by first | exact H1.out | exact H2.out | exact H3.out | exact H4.out)))).mono ?_; rintro e w1 ⟨rfl, hb⟩; have BW2 := Aside0.mk (below_then BW.out BW.out.size hb); clear BW hx0 hf0 hcm0 hcm1 hcm2 hcb0 hcb1 hcu2; have BW := BW2; clear BW2 hb; have hcm0 : w1.cell? ⟨gb277, 0, none⟩ = some (.int .i64 a0_0) := (blk_cell (blk_below Y4.out BW.out) 0).trans rfl; have hcm1 : w1.cell? ⟨gb277, 1, none⟩ = some (.int .i64 a0_1) := (blk_cell (blk_below Y4.out BW.out) 1).trans rfl; have hcm2 : w1.cell? ⟨gb277, 2, none⟩ = some (.slice A0_2 l0_2.length c0_2) := (blk_cell (blk_below Y4.out BW.out) 2).trans rfl; have hcb0 : w1.cell? ⟨Bx, 0, none⟩ = some (.int .i64 X) := (blk_cell (blk_below BX.out BW.out) 0).trans rfl; have hcb1 : w1.cell? ⟨Bx, 1, none⟩ = some (.int .i64 Y) := (blk_cell (blk_below BX.out BW.out) 1).trans rfl; have hcu2 : w1.cell? ⟨gb283, 2, none⟩ = some (.slice (some ⟨go9, 0, none⟩) y280.length co17) := (blk_cell (blk_below Y6.out BW.out) 2).trans rfl; obtain ⟨hx0, hf0⟩ := Kd.R_celln false (Kd.R_below Y7.out BW.out) IX PI.out QI.out) | (refine And.intro (show Fence.wide.fn 28 from trivial) ?_))
                have hP := Kd.R_putn (Kd.R_below Y7.out BW.out) IX true
                rw [HIK.out, Int.toNat_natCast] at hP ⊢
                have hset : morphology_Outline.go a0_0 a0_1 l0_2 y280 (pre ++ [x]) = (morphology_Outline.go a0_0 a0_1 l0_2 y280 pre).set kx true := by rw [morphology_Outline.go_push, HKX.out, HT.out]; rfl
                refine ⟨((KeepsOthers.of_below BW.out).trans (KeepsOthers.setCell _ _ _)).from _, ⟨(BW.out.mono HB1.out.size).setCell (p := ⟨go9, kx, none⟩) (show w.heap.size ≤ go9 from GB9.out) _, (Below.heap_setCell _ ⟨go9, kx, none⟩ _ _ (show Bv ≠ go9 from HBV9.out)).trans (BW.out.block Bv HBV.out), (Below.heap_setCell _ ⟨go9, kx, none⟩ _ _ (show Bm ≠ go9 from HBM9.out)).trans (BW.out.block Bm HBM.out)⟩, ⟨⟨blk_far (p := ⟨go9, kx, none⟩) (blk_below Y4.out BW.out) (show gb277 ≠ go9 from N4.out) _, blk_far (p := ⟨go9, kx, none⟩) (blk_below Y5.out BW.out) (show gb278 ≠ go9 from N5.out) _, blk_far (p := ⟨go9, kx, none⟩) (blk_below Y6.out BW.out) (show gb283 ≠ go9 from N6.out) _, by rw [hset]; exact hP⟩, (below_then HB1.out HB1.out.size BW.out).setCell (p := ⟨go9, kx, none⟩) (show w.heap.size ≤ go9 from GB9.out) _, Nat.le_trans HLE.out (Nat.le_trans BW.out.size (by simp))⟩⟩
              | true =>
                gi_wp2_with (first | (refine ⟨trivial, ?_⟩; gi_at_call 28; refine (CallsIn.inRound l (callsIn_wide.2 (HAT.out _ _ _ _ (below_then HB1.out HB1.out.size BW.out) (by first | exact H1.out | exact H2.out | exact H3.out | exact H4.out)))).mono ?_; rintro e w1 ⟨rfl, hb⟩; have BW2 := Aside0.mk (below_then BW.out BW.out.size hb); clear BW hx0 hf0 hcm0 hcm1 hcm2 hcb0 hcb1 hcu2; have BW := BW2; clear BW2 hb; have hcm0 : w1.cell? ⟨gb277, 0, none⟩ = some (.int .i64 a0_0) := (blk_cell (blk_below Y4.out BW.out) 0).trans rfl; have hcm1 : w1.cell? ⟨gb277, 1, none⟩ = some (.int .i64 a0_1) := (blk_cell (blk_below Y4.out BW.out) 1).trans rfl; have hcm2 : w1.cell? ⟨gb277, 2, none⟩ = some (.slice A0_2 l0_2.length c0_2) := (blk_cell (blk_below Y4.out BW.out) 2).trans rfl; have hcb0 : w1.cell? ⟨Bx, 0, none⟩ = some (.int .i64 X) := (blk_cell (blk_below BX.out BW.out) 0).trans rfl; have hcb1 : w1.cell? ⟨Bx, 1, none⟩ = some (.int .i64 Y) := (blk_cell (blk_below BX.out BW.out) 1).trans rfl; have hcu2 : w1.cell? ⟨gb283, 2, none⟩ = some (.slice (some ⟨go9, 0, none⟩) y280.length co17) := (blk_cell (blk_below Y6.out BW.out) 2).trans rfl; obtain ⟨hx0, hf0⟩ := Kd.R_celln false (Kd.R_below Y7.out BW.out) IX PI.out QI.out) | (refine And.intro (show Fence.wide.fn 28 from trivial) ?_))
                have hP := Kd.R_putn (Kd.R_below Y7.out BW.out) IX false
                rw [HIK.out, Int.toNat_natCast] at hP ⊢
                have hset : morphology_Outline.go a0_0 a0_1 l0_2 y280 (pre ++ [x]) = (morphology_Outline.go a0_0 a0_1 l0_2 y280 pre).set kx false := by rw [morphology_Outline.go_push, HKX.out, HT.out]; rfl
                refine ⟨((KeepsOthers.of_below BW.out).trans (KeepsOthers.setCell _ _ _)).from _, ⟨(BW.out.mono HB1.out.size).setCell (p := ⟨go9, kx, none⟩) (show w.heap.size ≤ go9 from GB9.out) _, (Below.heap_setCell _ ⟨go9, kx, none⟩ _ _ (show Bv ≠ go9 from HBV9.out)).trans (BW.out.block Bv HBV.out), (Below.heap_setCell _ ⟨go9, kx, none⟩ _ _ (show Bm ≠ go9 from HBM9.out)).trans (BW.out.block Bm HBM.out)⟩, ⟨⟨blk_far (p := ⟨go9, kx, none⟩) (blk_below Y4.out BW.out) (show gb277 ≠ go9 from N4.out) _, blk_far (p := ⟨go9, kx, none⟩) (blk_below Y5.out BW.out) (show gb278 ≠ go9 from N5.out) _, blk_far (p := ⟨go9, kx, none⟩) (blk_below Y6.out BW.out) (show gb283 ≠ go9 from N6.out) _, by rw [hset]; exact hP⟩, (below_then HB1.out HB1.out.size BW.out).setCell (p := ⟨go9, kx, none⟩) (show w.heap.size ≤ go9 from GB9.out) _, Nat.le_trans HLE.out (Nat.le_trans BW.out.size (by simp))⟩⟩
      case done =>
        rintro D ys W hD rfl ⟨⟨y4, y5, y6, y7⟩, hB1, hle⟩ hK
        have hgo : morphology_Outline.go a0_0 a0_1 l0_2 y280 (darks l0_2 l0_2.length) = r3 := by
          rw [← HR3.out]
          unfold morphology_Outline.go morphology_Outline.run
          rw [morphology_Outline.go_run _ _ _ _ _ (morphology_Outline.darks_lt l0_2 l0_2.length), Ny280.out]
        rw [hgo] at y7
        have hcu0 : W.cell? ⟨gb283, 0, none⟩ = some (.int .i64 a0_0) := (blk_cell y6 0).trans rfl
        have hcu1 : W.cell? ⟨gb283, 1, none⟩ = some (.int .i64 a0_1) := (blk_cell y6 1).trans rfl
        have hcu2 : W.cell? ⟨gb283, 2, none⟩ = some (.slice (some ⟨go9, 0, none⟩) y280.length co17) := (blk_cell y6 2).trans rfl
        have hcz0 : W.cell? ⟨gb278, 0, none⟩ = some (.int .i64 0) := (blk_cell y5 0).trans rfl
        have hcz1 : W.cell? ⟨gb278, 1, none⟩ = some (.int .i64 0) := (blk_cell y5 1).trans rfl
        have hcz2 : W.cell? ⟨gb278, 2, none⟩ = some (.slice none 0 0) := (blk_cell y5 2).trans rfl
        have hfz0 := blk_frozen y5 0
        have hfz1 := blk_frozen y5 1
        have hfz2 := blk_frozen y5 2
        have hne1 := NB278_283.out
        have hne2 := NB283_278.out
        have Y5 := Aside0.mk y5
        have Y7 := Aside0.mk y7
        have HB1 := Aside0.mk hB1
        have HK := Aside0.mk hK
        have HGB := GE278.out
        clear y4 y5 y6 y7 hB1 hK hm0 hm1 hm2 hHeld hgo
        go_wp2
        obtain ⟨W3, hW3⟩ : ∃ W3, (((W.setCell ⟨gb278, 0, none⟩ (.int .i64 a0_0)).setCell ⟨gb278, 1, none⟩ (.int .i64 a0_1)).setCell ⟨gb278, 2, none⟩ (.slice (some ⟨go9, 0, none⟩) y280.length co17)) = W3 := ⟨_, rfl⟩
        rw [hW3]
        have hB3 : Below w.heap.size w W3 := by rw [← hW3]; exact below_set (below_set (below_set HB1.out HGB) HGB) HGB
        have hX3 : W3.heap[gb278]? = some (.cells #[.int .i64 a0_0, .int .i64 a0_1, .slice (some ⟨go9, 0, none⟩) y280.length co17] 24 (0, 0)) := by
          rw [← hW3]
          exact blk_put (blk_put (blk_put Y5.out 0 _ rfl) 1 _ rfl) 2 _ rfl
        have hR3 : Kd.R Kd.bool 4 W3 w.heap.size (fun k_ => some k_ = (Value.slice (some ⟨go9, 0, none⟩) y280.length co17).ownBlock) (.slice (some ⟨go9, 0, none⟩) y280.length co17) r3 := by rw [← hW3]; exact far3 Y7 Y5
        have hK3 : W3.heap[D]? = some (.deferred (some [])) := by
          rw [← hW3]
          exact (((KeepsOthers.setCell _ _ _).trans (KeepsOthers.setCell _ _ _)).trans (KeepsOthers.setCell _ _ _)).same D _ HK.out rfl
        have hDne : gb278 ≠ D := by omega
        refine ⟨by simp, .inl ⟨_, _, rfl, run_takeDeferred hK3, ?_⟩⟩
        refine ⟨_, results_ct rfl _ _ gb278 24 _ (0, 0) _ rfl ((World.putObj_heap_other hDne).trans hX3) Try.underlying24 rfl (by kernel_rfl), _, rfl, ?_, hB3.trans ?_⟩
        · refine Kd.R_mono (Kd.R_step hR3 (fun k hk _ => World.putObj_heap_other ?_)) (fun _ _ => trivial)
          have hk2 : k = go9 := by simpa [Value.ownBlock] using hk
          have := GL9.out
          omega
        · exact belowK_b (w := w) (Nat.le_refl _) W3 D _ _ (by have := HB5.out.size; omega) hK3 rfl rfl
      case stop =>
        rintro D c pre W _ _ h _
        exact h.elim
    · rw [if_neg hlen0] at H
      exact absurd H (by simp)
  · rw [if_neg c3] at H
    have c3b0 : (t279 == 0) = false := beq_eq_false_iff_ne.mpr c3
    have c3b1 : (t279 != 0) = true := bne_iff_ne.mpr c3
    simp only [Option.some.injEq, Prod.mk.injEq] at H
    obtain ⟨rfl, rfl, rfl, rfl⟩ := H
    refine (callsIn_wide (n := 5)).1 ?_
    refine callsIn_of_wp_marks Try.func20 rfl trivial ?_ rfl
    refine wpIn_mono (Q := noPanic _) ?_ noPanic_le
    refine wpIn_wide.2 ?_
    simp only [Try.ntmps20, List.size_toArray, List.length_cons, List.length_nil, Nat.reduceAdd, Nat.reduceSub, Array.replicate_succ, Array.replicate_zero, List.push_toArray, List.append_toArray, List.nil_append, List.cons_append]
    go_wp2_with (first | ((with_reducible refine gate_dst (N := 1) rfl ?_); refine box_event ?hg (N := 1) ?hd (cs := #[.int .i64 a0_0, .int .i64 a0_1, .slice A0_2 l0_2.length c0_2]) (t := 24) ?hr ?_; (case hd => rfl); (case hg => rfl); (case hr => first | (go_simp; done) | (go_simp; rfl)); intro gb277 hg w25 hbox hb; have n0_ := Aside0.mk (below_step (hb0 HB) hb); have n1_ := Aside0.mk (hbox); have n2_ := Aside0.mk ((by rw [hg]; exact (below_size (hb0 HB)) : w.heap.size ≤ gb277)); have n3_ := Aside0.mk ((by rw [hg]; exact (below_size (hb0 HB)) : w.heap.size ≤ gb277)); clear HB; have HB := n0_; have BK277 := n1_; have GW277 := n2_; have GE277 := n3_; clear n0_ n1_ n2_ n3_; clear hb hbox hg) | ((with_reducible refine gate_dst (N := 2) rfl ?_); refine box_event ?hg (N := 2) ?hd (cs := #[.int .i64 0, .int .i64 0, .slice none 0 0]) (t := 24) ?hr ?_; (case hd => rfl); (case hg => rfl); (case hr => first | (go_simp; done) | (go_simp; rfl)); intro gb278 hg w26 hbox hb; have n0_ := Aside0.mk (blk_below (bkx BK277) hb); have n1_ := Aside0.mk (below_step (hb1 HB GE277) hb); have n2_ := Aside0.mk (hbox); have n3_ := Aside0.mk ((by rw [hg]; exact (below_size (hb1 HB GE277)) : w.heap.size ≤ gb278)); have n4_ := Aside0.mk ((by rw [hg]; exact (below_size (hb1 HB GE277)) : w.heap.size ≤ gb278)); have n5_ := Aside0.mk (nel hg BK277 : gb277 ≠ gb278); have n6_ := Aside0.mk (neg hg BK277 : gb278 ≠ gb277); clear BK277; clear HB; have BK277 := n0_; have HB := n1_; have BK278 := n2_; have GW278 := n3_; have GE278 := n4_; have NB277_278 := n5_; have NB278_277 := n6_; clear n0_ n1_ n2_ n3_ n4_ n5_ n6_; clear hb hbox hg; have hnb27 := NB277_278.out; have hnc27 := NB278_277.out; have hcz28_0 : w26.cell? ⟨gb277, 0, none⟩ = some (.int .i64 a0_0) := (blk_cell BK277.out 0).trans rfl; have hcz28_1 : w26.cell? ⟨gb277, 1, none⟩ = some (.int .i64 a0_1) := (blk_cell BK277.out 1).trans rfl; have hcz28_2 : w26.cell? ⟨gb277, 2, none⟩ = some (.slice A0_2 l0_2.length c0_2) := (blk_cell BK277.out 2).trans rfl; have hfz28_0 := blk_frozen BK277.out 0; have hfz28_1 := blk_frozen BK277.out 1; have hfz28_2 := blk_frozen BK277.out 2) | ((with_reducible refine gate_callee (f := 35) rfl ?_); refine goesL_ (some 9) rfl rfl Try.func35 (by kernel_rfl) rfl #[.agg #[.int .i64 a0_0, .int .i64 a0_1, .slice A0_2 l0_2.length c0_2], .slice none 0 0] rfl mapx ?_; (refine (morphology_check.calls k a0_0 a0_1 _ _ l0_2 _ _ ([] : List Int) t279 _ ?side1 ?side2 ?side3 ?side4 A2.out).mono ?_); (case side1 => repeat (first | exact (Kd.C_below HR0_2.out HB.out) | (with_reducible refine Kd.C_alloc ?_ _) | (with_reducible refine Kd.C_drewN ?_ _) | (with_reducible refine Kd.C_drew ?_))); (case side2 => exact HC0_2.out); (case side3 => exact Kd.C_nil _ _); (case side4 => exact Nat.le_refl _); rintro e w29 ⟨rfl, hb⟩; refine ⟨_, rfl, ?_⟩; have n0_ := Aside0.mk (blk_below (bkx BK277) hb); have n1_ := Aside0.mk (blk_below (bkx BK278) hb); have n2_ := Aside0.mk (below_step (hb2 HB GE277 GE278) hb); clear BK277; clear BK278; clear HB; have BK277 := n0_; have BK278 := n1_; have HB := n2_; clear n0_ n1_ n2_; (try clear hb); (try clear hb2); (try clear hk); (try clear hi); have hcz30_0 : w29.cell? ⟨gb278, 0, none⟩ = some (.int .i64 0) := (blk_cell BK278.out 0).trans rfl; have hcz30_1 : w29.cell? ⟨gb278, 1, none⟩ = some (.int .i64 0) := (blk_cell BK278.out 1).trans rfl; have hcz30_2 : w29.cell? ⟨gb278, 2, none⟩ = some (.slice none 0 0) := (blk_cell BK278.out 2).trans rfl; have hfz30_0 := blk_frozen BK278.out 0; have hfz30_1 := blk_frozen BK278.out 1; have hfz30_2 := blk_frozen BK278.out 2))
    refine ⟨_, results_ct rfl _ _ gb278 24 #[.int .i64 0, .int .i64 0, .slice none 0 0] (0, 0) _ rfl (by refine bkt ?_; refine blk_put (cs := #[.int .i64 0, .int .i64 0, .slice none 0 0]) ?_ 2 _ rfl; refine bkt ?_; refine blk_put (cs := #[.int .i64 0, .int .i64 0, .slice none 0 0]) ?_ 1 _ rfl; refine bkt ?_; refine blk_put (cs := #[.int .i64 0, .int .i64 0, .slice none 0 0]) ?_ 0 _ rfl; refine bkt ?_; exact BK278.out) Try.underlying24 rfl (by kernel_rfl), _, rfl, Kd.R_nil _ _ _ _ _, hb2 HB GE277 GE278⟩
end

end Go.Proofs.Ytkakiblnhgpdnaa.PR
