import Derived.Test.YtcmcmoaikabfoaaXPixels
import Derived.Test.YtcmcmoaikabfoaaWFour
namespace Go.Proofs.Ytcmcmoaikabfoaa.XPixels
set_option linter.unusedVariables false
set_option linter.unusedSimpArgs false
open Go.RowKit Go.Shelf Go.Proofs.YtcmcmoaikabfoaaW.PrintWords Go.Proofs.YtcmcmoaikabfoaaW.PrintLast Go.Proofs.YtcmcmoaikabfoaaW.PrintMore
attribute [local go_sem] max2_int min2_int max_two min_two Oper.semAt_some

/-- The sizes of the memory in the round's walk, told by the names that the walk gives. -/
theorem hz_ {p : Prop} (h : p := by (try dsimp only); have hs1 := HS1.out; have hd0 : W1.drew.heap.size = W1.heap.size := rfl; have l4 := blk_lt x4; have l5 := blk_lt x5; have l6 := blk_lt x6; have l7 := blk_lt x7; have s0 := b0.size; have s1 := b1.size; have s2 := b2.size; have s3 := b3.size; omega) : p := h
def bstep (s : Int × Int × Int × Int) (p : Int × Int) : Int × Int × Int × Int := (mn s.1 p.1, mn s.2.1 p.2, mx s.2.2.1 p.1, mx s.2.2.2 p.2)
def bout (s : Int × Int × Int × Int) : Int × Int × Int × Int × Bool := if s.2.2.1 < 0 then (0, 0, 0, 0, false) else (s.1, s.2.1, wrap64 (wrap64 (s.2.2.1 - s.1) + 1), wrap64 (wrap64 (s.2.2.2 - s.2.1) + 1), true)

structure FourBoxes (B1 : Nat) (W0 w' : World) (g4 g5 g6 g7 : Nat) : Prop where
  below : Below W0.heap.size W0 w'
  x4 : w'.heap[g4]? = some (.cells #[.int .i64 0] 3 (0, 0))
  x5 : w'.heap[g5]? = some (.cells #[.int .i64 0] 3 (0, 0))
  x6 : w'.heap[g6]? = some (.cells #[.int .i64 0] 3 (0, 0))
  x7 : w'.heap[g7]? = some (.cells #[.int .i64 0] 3 (0, 0))
  l4 : W0.heap.size ≤ g4
  l5 : W0.heap.size ≤ g5
  l6 : W0.heap.size ≤ g6
  l7 : W0.heap.size ≤ g7
  n45 : g4 ≠ g5
  n46 : g4 ≠ g6
  n47 : g4 ≠ g7
  n56 : g5 ≠ g6
  n57 : g5 ≠ g7
  n67 : g6 ≠ g7
  n4 : B1 ≠ g4

set_option maxRecDepth 100000 in
set_option maxHeartbeats 1000000 in
theorem bounds_calls (e0 : Int) (a b : Int) (A : Option Addr) (c : Nat) (xs : List Bool) (w : World) (ha : (e0 == 0) = true → 1 ≤ a ∧ a ≤ 4096) (hlen : xs.length ≤ 140737488351232) (hC : Kd.C Kd.bool w A xs.length xs)
    (hcheck : ∀ w' : World, Below w.heap.size w w' → Calls Try.prog 23 #[.agg #[.int .i64 a, .int .i64 b, .slice A xs.length c]] w' fun e w'' => e = .returned (.int .i64 e0) ∧ Below w'.heap.size w' w'')
    (r1 r2 r3 r4 : Int) (r5 : Bool) (hr : bout ((if (e0 == 0) = true then dots a xs xs.length else []).foldl bstep (a, b, -1, -1)) = (r1, r2, r3, r4, r5)) :
    Calls Try.prog 17 #[.agg #[.int .i64 a, .int .i64 b, .slice A xs.length c]] w fun e w' => e = .returned (.tuple #[.agg #[.int .i64 r1, .int .i64 r2, .int .i64 r3, .int .i64 r4], .bool r5]) ∧ Below w.heap.size w w' := by
  have hu24 := Try.underlying24
  have hu26 := Try.underlying26
  refine (callsIn_wide (n := 5)).1 ?_
  refine callsIn_of_wp_marks Try.func17 rfl trivial ?_ rfl
  refine wpIn_mono (Q := noPanic _) ?_ noPanic_le
  refine wpIn_wide.2 ?_
  simp only [Try.ntmps17, List.size_toArray, List.length_cons, List.length_nil, Nat.reduceAdd, Nat.reduceSub, Array.replicate_succ, Array.replicate_zero, List.push_toArray, List.append_toArray, List.nil_append, List.cons_append]
  have HC := Aside0.mk hcheck
  have HC2 := Aside0.mk hC
  have HR := Aside0.mk hr
  have HA := Aside0.mk ha
  clear hcheck hC hr ha
  go_wp2
  obtain ⟨W1, hW1⟩ : ∃ W1, (w.alloc (.cells #[.int .i64 a, .int .i64 b, .slice A xs.length c] 24)).alloc (.cells #[.int .i64 0, .int .i64 0, .int .i64 0, .int .i64 0] 26) = W1 := ⟨_, rfl⟩
  have HB1 : Aside0 (Below w.heap.size w W1) := ⟨by rw [← hW1]; exact ((Below.refl _ w).alloc (Nat.le_refl _) _).alloc (by simp) _⟩
  have HM1 : Aside0 (W1.heap[w.heap.size]? = some (.cells #[.int .i64 a, .int .i64 b, .slice A xs.length c] 24 (0, 0))) := ⟨by rw [← hW1]; exact blk_alloc (blk_new _ _) _⟩
  have HX1 : Aside0 (W1.heap[w.heap.size + 1]? = some (.cells #[.int .i64 0, .int .i64 0, .int .i64 0, .int .i64 0] 26 (0, 0))) := ⟨by rw [← hW1]; have := blk_new (w.alloc (.cells #[.int .i64 a, .int .i64 b, .slice A xs.length c] 24)) (.cells #[.int .i64 0, .int .i64 0, .int .i64 0, .int .i64 0] 26); rwa [World.size_alloc] at this⟩
  have HS1 : Aside0 (W1.heap.size = w.heap.size + 2) := ⟨by rw [← hW1]; simp⟩
  rw [hW1]
  clear hW1
  have hcm0 : W1.drew.cell? ⟨w.heap.size, 0, none⟩ = some (.int .i64 a) := (blk_cell (blk_drew HM1.out) 0).trans rfl
  have hcm1 : W1.drew.cell? ⟨w.heap.size, 1, none⟩ = some (.int .i64 b) := (blk_cell (blk_drew HM1.out) 1).trans rfl
  refine start_ (n := 12) (S := fun w' => w'.cell? ⟨w.heap.size, 0, none⟩ = some (.int .i64 a) ∧ w'.cell? ⟨w.heap.size, 1, none⟩ = some (.int .i64 b)) (ds := [9, 10, 11]) #[false, false, false, false, false, false, false, false, false, false, false, false] (by kernel_rfl) rfl rfl ⟨hcm0, hcm1⟩ (fun hHeld => ?_)
  refine pure_ (i := 0) (N := some 9) (v := ?_) (a' := ?_) #[true, false, false, false, false, false, false, false, false, false, false, false] rfl rfl (by kernel_rfl) (fun _ _ _ h => h) (Or.inl ⟨by rfl, ?_⟩) ?_ ?_
  rotate_left
  · intro w'
    go_simp
    with_reducible rfl
  rotate_left
  · simp only [Act.put, List.setIfInBounds_toArray, List.set_cons_zero, List.set_cons_succ, i64_w, i32_w]
    rfl
  refine pure_ (i := 2) (N := some 11) (v := ?_) (a' := ?_) #[true, false, true, false, false, false, false, false, false, false, false, false] rfl rfl (by kernel_rfl) (fun _ _ _ h => h) (Or.inl ⟨by rfl, ?_⟩) ?_ ?_
  rotate_left
  · intro w'
    go_simp
    with_reducible rfl
  rotate_left
  · simp only [Act.put, List.setIfInBounds_toArray, List.set_cons_zero, List.set_cons_succ, i64_w, i32_w]
    rfl
  refine take_ (i := 1) (N := some 10) (v := ?_) (a' := ?_) #[true, true, true, false, false, false, false, false, false, false, false, false] rfl rfl (by kernel_rfl) (fun _ _ _ h => h) (Or.inl ⟨by rfl, ?_⟩) hHeld ?_ ?_
  rotate_left
  · rintro w' ⟨s0, s1⟩
    go_simp
    with_reducible rfl
  rotate_left
  · simp only [Act.put, List.setIfInBounds_toArray, List.set_cons_zero, List.set_cons_succ, i64_w, i32_w]
    rfl
  refine take_ (i := 3) (N := some 12) (v := ?_) (a' := ?_) #[true, true, true, true, false, false, false, false, false, false, false, false] rfl rfl (by kernel_rfl) (fun _ _ _ h => h) (Or.inl ⟨by rfl, ?_⟩) hHeld ?_ ?_
  rotate_left
  · rintro w' ⟨s0, s1⟩
    go_simp
    with_reducible rfl
  rotate_left
  · simp only [Act.put, List.setIfInBounds_toArray, List.set_cons_zero, List.set_cons_succ, i64_w, i32_w]
    rfl
  refine join_ (σ := Nat × Nat × Nat × Nat) 4 #[true, true, true, true, true, true, true, true, false, false, false, false] (fun s => [(4, .pointer (some ⟨s.1, 0, none⟩)), (5, .pointer (some ⟨s.2.1, 0, none⟩)), (6, .pointer (some ⟨s.2.2.1, 0, none⟩)), (7, .pointer (some ⟨s.2.2.2, 0, none⟩))]) (fun s w' => FourBoxes w.heap.size W1.drew w' s.1 s.2.1 s.2.2.1 s.2.2.2 ∧ w'.cell? ⟨w.heap.size, 0, none⟩ = some (.int .i64 a) ∧ w'.cell? ⟨w.heap.size, 1, none⟩ = some (.int .i64 b)) ?_ ?_
  rotate_left
  · intro hCont
    refine four_ (i := 4) (j := 5) (k := 6) (m := 7) (Ni := some 4) (Nj := some 5) (Nk := some 6) (Nm := some 7) #[true, true, true, true, true, false, false, false, false, false, false, false] #[true, true, true, true, false, true, false, false, false, false, false, false] #[true, true, true, true, false, false, true, false, false, false, false, false] #[true, true, true, true, false, false, false, true, false, false, false, false] rfl rfl rfl rfl rfl rfl rfl rfl (by kernel_rfl) (by decide) (by decide) (by decide) (by decide) (fun K hK => ?_) (fun K hK => ?_) (fun K hK => ?_) (fun K hK => ?_)
    · skip
      refine box_step (by rfl) (N := 4) rfl (cs := #[.int .i64 0]) (t := 3) ?hr ?_; (case hr => first | (go_simp; done) | (go_simp; rfl))
      intro g4 e0 wq0 x4 b0
      refine hK.out _ _ ⟨(pw_cell_below b0 hHeld.1), (pw_cell_below b0 hHeld.2)⟩ (fun hHeld => ?_)
      clear hK K
      refine norm_ (a' := ?_) ?_ ?_
      rotate_left
      · show Act.put _ (some 4) _ = _
        simp only [Act.put, List.setIfInBounds_toArray, List.set_cons_zero, List.set_cons_succ, i64_w, i32_w]
        rfl
      refine three_ (i := 5) (j := 6) (k := 7) (Ni := some 5) (Nj := some 6) (Nk := some 7) #[true, true, true, true, true, true, false, false, false, false, false, false] #[true, true, true, true, true, false, true, false, false, false, false, false] #[true, true, true, true, true, false, false, true, false, false, false, false] rfl rfl rfl rfl rfl rfl (by kernel_rfl) (by decide) (by decide) (by decide) (fun K hK => ?_) (fun K hK => ?_) (fun K hK => ?_)
      · skip
        refine box_step (by rfl) (N := 5) rfl (cs := #[.int .i64 0]) (t := 3) ?hr ?_; (case hr => first | (go_simp; done) | (go_simp; rfl))
        intro g5 e1 wq1 x5 b1
        refine hK.out _ _ ⟨(pw_cell_below b1 hHeld.1), (pw_cell_below b1 hHeld.2)⟩ (fun hHeld => ?_)
        clear hK K
        refine norm_ (a' := ?_) ?_ ?_
        rotate_left
        · show Act.put _ (some 5) _ = _
          simp only [Act.put, List.setIfInBounds_toArray, List.set_cons_zero, List.set_cons_succ, i64_w, i32_w]
          rfl
        refine two_ (i := 6) (j := 7) (Ni := some 6) (Nj := some 7) #[true, true, true, true, true, true, true, false, false, false, false, false] #[true, true, true, true, true, true, false, true, false, false, false, false] rfl rfl rfl rfl (by kernel_rfl) (by decide) (by decide) (fun K hK => ?_) (fun K hK => ?_)
        · skip
          refine box_step (by rfl) (N := 6) rfl (cs := #[.int .i64 0]) (t := 3) ?hr ?_; (case hr => first | (go_simp; done) | (go_simp; rfl))
          intro g6 e2 wq2 x6 b2
          refine hK.out _ _ ⟨(pw_cell_below b2 hHeld.1), (pw_cell_below b2 hHeld.2)⟩ (fun hHeld => ?_)
          clear hK K
          refine norm_ (a' := ?_) ?_ ?_
          rotate_left
          · show Act.put _ (some 6) _ = _
            simp only [Act.put, List.setIfInBounds_toArray, List.set_cons_zero, List.set_cons_succ, i64_w, i32_w]
            rfl
          refine one_ (i := 7) (N := some 7) #[true, true, true, true, true, true, true, true, false, false, false, false] rfl rfl (by kernel_rfl) (by decide) (fun K hK => ?_)
          refine box_step (by rfl) (N := 7) rfl (cs := #[.int .i64 0]) (t := 3) ?hr ?_; (case hr => first | (go_simp; done) | (go_simp; rfl))
          intro g7 e3 wq3 x7 b3
          refine hK.out _ _ ⟨(pw_cell_below b3 hHeld.1), (pw_cell_below b3 hHeld.2)⟩ (fun hHeld => ?_)
          clear hK K
          refine norm_ (a' := ?_) ?_ ?_
          rotate_left
          · show Act.put _ (some 7) _ = _
            simp only [Act.put, List.setIfInBounds_toArray, List.set_cons_zero, List.set_cons_succ, i64_w, i32_w]
            rfl
          exact norm_ (by simp only [putAll, Act.put, List.setIfInBounds_toArray, List.set_cons_zero, List.set_cons_succ]) (hCont (g4, g5, g6, g7) _ ⟨⟨below_then (below_then (below_then b0 b0.size b1) (Nat.le_trans b0.size b1.size) b2) (Nat.le_trans b0.size (Nat.le_trans b1.size b2.size)) b3, (blk_below (blk_below (blk_below x4 b1) b2) b3), (blk_below (blk_below x5 b2) b3), (blk_below x6 b3), x7, hz_, hz_, hz_, hz_, hz_, hz_, hz_, hz_, hz_, hz_, hz_⟩, hHeld⟩)
        · skip
          refine box_step (by rfl) (N := 7) rfl (cs := #[.int .i64 0]) (t := 3) ?hr ?_; (case hr => first | (go_simp; done) | (go_simp; rfl))
          intro g7 e2 wq2 x7 b2
          refine hK.out _ _ ⟨(pw_cell_below b2 hHeld.1), (pw_cell_below b2 hHeld.2)⟩ (fun hHeld => ?_)
          clear hK K
          refine norm_ (a' := ?_) ?_ ?_
          rotate_left
          · show Act.put _ (some 7) _ = _
            simp only [Act.put, List.setIfInBounds_toArray, List.set_cons_zero, List.set_cons_succ, i64_w, i32_w]
            rfl
          refine one_ (i := 6) (N := some 6) #[true, true, true, true, true, true, true, true, false, false, false, false] rfl rfl (by kernel_rfl) (by decide) (fun K hK => ?_)
          refine box_step (by rfl) (N := 6) rfl (cs := #[.int .i64 0]) (t := 3) ?hr ?_; (case hr => first | (go_simp; done) | (go_simp; rfl))
          intro g6 e3 wq3 x6 b3
          refine hK.out _ _ ⟨(pw_cell_below b3 hHeld.1), (pw_cell_below b3 hHeld.2)⟩ (fun hHeld => ?_)
          clear hK K
          refine norm_ (a' := ?_) ?_ ?_
          rotate_left
          · show Act.put _ (some 6) _ = _
            simp only [Act.put, List.setIfInBounds_toArray, List.set_cons_zero, List.set_cons_succ, i64_w, i32_w]
            rfl
          exact norm_ (by simp only [putAll, Act.put, List.setIfInBounds_toArray, List.set_cons_zero, List.set_cons_succ]) (hCont (g4, g5, g6, g7) _ ⟨⟨below_then (below_then (below_then b0 b0.size b1) (Nat.le_trans b0.size b1.size) b2) (Nat.le_trans b0.size (Nat.le_trans b1.size b2.size)) b3, (blk_below (blk_below (blk_below x4 b1) b2) b3), (blk_below (blk_below x5 b2) b3), x6, (blk_below x7 b3), hz_, hz_, hz_, hz_, hz_, hz_, hz_, hz_, hz_, hz_, hz_⟩, hHeld⟩)
      · skip
        refine box_step (by rfl) (N := 6) rfl (cs := #[.int .i64 0]) (t := 3) ?hr ?_; (case hr => first | (go_simp; done) | (go_simp; rfl))
        intro g6 e1 wq1 x6 b1
        refine hK.out _ _ ⟨(pw_cell_below b1 hHeld.1), (pw_cell_below b1 hHeld.2)⟩ (fun hHeld => ?_)
        clear hK K
        refine norm_ (a' := ?_) ?_ ?_
        rotate_left
        · show Act.put _ (some 6) _ = _
          simp only [Act.put, List.setIfInBounds_toArray, List.set_cons_zero, List.set_cons_succ, i64_w, i32_w]
          rfl
        refine two_ (i := 5) (j := 7) (Ni := some 5) (Nj := some 7) #[true, true, true, true, true, true, true, false, false, false, false, false] #[true, true, true, true, true, false, true, true, false, false, false, false] rfl rfl rfl rfl (by kernel_rfl) (by decide) (by decide) (fun K hK => ?_) (fun K hK => ?_)
        · skip
          refine box_step (by rfl) (N := 5) rfl (cs := #[.int .i64 0]) (t := 3) ?hr ?_; (case hr => first | (go_simp; done) | (go_simp; rfl))
          intro g5 e2 wq2 x5 b2
          refine hK.out _ _ ⟨(pw_cell_below b2 hHeld.1), (pw_cell_below b2 hHeld.2)⟩ (fun hHeld => ?_)
          clear hK K
          refine norm_ (a' := ?_) ?_ ?_
          rotate_left
          · show Act.put _ (some 5) _ = _
            simp only [Act.put, List.setIfInBounds_toArray, List.set_cons_zero, List.set_cons_succ, i64_w, i32_w]
            rfl
          refine one_ (i := 7) (N := some 7) #[true, true, true, true, true, true, true, true, false, false, false, false] rfl rfl (by kernel_rfl) (by decide) (fun K hK => ?_)
          refine box_step (by rfl) (N := 7) rfl (cs := #[.int .i64 0]) (t := 3) ?hr ?_; (case hr => first | (go_simp; done) | (go_simp; rfl))
          intro g7 e3 wq3 x7 b3
          refine hK.out _ _ ⟨(pw_cell_below b3 hHeld.1), (pw_cell_below b3 hHeld.2)⟩ (fun hHeld => ?_)
          clear hK K
          refine norm_ (a' := ?_) ?_ ?_
          rotate_left
          · show Act.put _ (some 7) _ = _
            simp only [Act.put, List.setIfInBounds_toArray, List.set_cons_zero, List.set_cons_succ, i64_w, i32_w]
            rfl
          exact norm_ (by simp only [putAll, Act.put, List.setIfInBounds_toArray, List.set_cons_zero, List.set_cons_succ]) (hCont (g4, g5, g6, g7) _ ⟨⟨below_then (below_then (below_then b0 b0.size b1) (Nat.le_trans b0.size b1.size) b2) (Nat.le_trans b0.size (Nat.le_trans b1.size b2.size)) b3, (blk_below (blk_below (blk_below x4 b1) b2) b3), (blk_below x5 b3), (blk_below (blk_below x6 b2) b3), x7, hz_, hz_, hz_, hz_, hz_, hz_, hz_, hz_, hz_, hz_, hz_⟩, hHeld⟩)
        · skip
          refine box_step (by rfl) (N := 7) rfl (cs := #[.int .i64 0]) (t := 3) ?hr ?_; (case hr => first | (go_simp; done) | (go_simp; rfl))
          intro g7 e2 wq2 x7 b2
          refine hK.out _ _ ⟨(pw_cell_below b2 hHeld.1), (pw_cell_below b2 hHeld.2)⟩ (fun hHeld => ?_)
          clear hK K
          refine norm_ (a' := ?_) ?_ ?_
          rotate_left
          · show Act.put _ (some 7) _ = _
            simp only [Act.put, List.setIfInBounds_toArray, List.set_cons_zero, List.set_cons_succ, i64_w, i32_w]
            rfl
          refine one_ (i := 5) (N := some 5) #[true, true, true, true, true, true, true, true, false, false, false, false] rfl rfl (by kernel_rfl) (by decide) (fun K hK => ?_)
          refine box_step (by rfl) (N := 5) rfl (cs := #[.int .i64 0]) (t := 3) ?hr ?_; (case hr => first | (go_simp; done) | (go_simp; rfl))
          intro g5 e3 wq3 x5 b3
          refine hK.out _ _ ⟨(pw_cell_below b3 hHeld.1), (pw_cell_below b3 hHeld.2)⟩ (fun hHeld => ?_)
          clear hK K
          refine norm_ (a' := ?_) ?_ ?_
          rotate_left
          · show Act.put _ (some 5) _ = _
            simp only [Act.put, List.setIfInBounds_toArray, List.set_cons_zero, List.set_cons_succ, i64_w, i32_w]
            rfl
          exact norm_ (by simp only [putAll, Act.put, List.setIfInBounds_toArray, List.set_cons_zero, List.set_cons_succ]) (hCont (g4, g5, g6, g7) _ ⟨⟨below_then (below_then (below_then b0 b0.size b1) (Nat.le_trans b0.size b1.size) b2) (Nat.le_trans b0.size (Nat.le_trans b1.size b2.size)) b3, (blk_below (blk_below (blk_below x4 b1) b2) b3), x5, (blk_below (blk_below x6 b2) b3), (blk_below x7 b3), hz_, hz_, hz_, hz_, hz_, hz_, hz_, hz_, hz_, hz_, hz_⟩, hHeld⟩)
      · skip
        refine box_step (by rfl) (N := 7) rfl (cs := #[.int .i64 0]) (t := 3) ?hr ?_; (case hr => first | (go_simp; done) | (go_simp; rfl))
        intro g7 e1 wq1 x7 b1
        refine hK.out _ _ ⟨(pw_cell_below b1 hHeld.1), (pw_cell_below b1 hHeld.2)⟩ (fun hHeld => ?_)
        clear hK K
        refine norm_ (a' := ?_) ?_ ?_
        rotate_left
        · show Act.put _ (some 7) _ = _
          simp only [Act.put, List.setIfInBounds_toArray, List.set_cons_zero, List.set_cons_succ, i64_w, i32_w]
          rfl
        refine two_ (i := 5) (j := 6) (Ni := some 5) (Nj := some 6) #[true, true, true, true, true, true, false, true, false, false, false, false] #[true, true, true, true, true, false, true, true, false, false, false, false] rfl rfl rfl rfl (by kernel_rfl) (by decide) (by decide) (fun K hK => ?_) (fun K hK => ?_)
        · skip
          refine box_step (by rfl) (N := 5) rfl (cs := #[.int .i64 0]) (t := 3) ?hr ?_; (case hr => first | (go_simp; done) | (go_simp; rfl))
          intro g5 e2 wq2 x5 b2
          refine hK.out _ _ ⟨(pw_cell_below b2 hHeld.1), (pw_cell_below b2 hHeld.2)⟩ (fun hHeld => ?_)
          clear hK K
          refine norm_ (a' := ?_) ?_ ?_
          rotate_left
          · show Act.put _ (some 5) _ = _
            simp only [Act.put, List.setIfInBounds_toArray, List.set_cons_zero, List.set_cons_succ, i64_w, i32_w]
            rfl
          refine one_ (i := 6) (N := some 6) #[true, true, true, true, true, true, true, true, false, false, false, false] rfl rfl (by kernel_rfl) (by decide) (fun K hK => ?_)
          refine box_step (by rfl) (N := 6) rfl (cs := #[.int .i64 0]) (t := 3) ?hr ?_; (case hr => first | (go_simp; done) | (go_simp; rfl))
          intro g6 e3 wq3 x6 b3
          refine hK.out _ _ ⟨(pw_cell_below b3 hHeld.1), (pw_cell_below b3 hHeld.2)⟩ (fun hHeld => ?_)
          clear hK K
          refine norm_ (a' := ?_) ?_ ?_
          rotate_left
          · show Act.put _ (some 6) _ = _
            simp only [Act.put, List.setIfInBounds_toArray, List.set_cons_zero, List.set_cons_succ, i64_w, i32_w]
            rfl
          exact norm_ (by simp only [putAll, Act.put, List.setIfInBounds_toArray, List.set_cons_zero, List.set_cons_succ]) (hCont (g4, g5, g6, g7) _ ⟨⟨below_then (below_then (below_then b0 b0.size b1) (Nat.le_trans b0.size b1.size) b2) (Nat.le_trans b0.size (Nat.le_trans b1.size b2.size)) b3, (blk_below (blk_below (blk_below x4 b1) b2) b3), (blk_below x5 b3), x6, (blk_below (blk_below x7 b2) b3), hz_, hz_, hz_, hz_, hz_, hz_, hz_, hz_, hz_, hz_, hz_⟩, hHeld⟩)
        · skip
          refine box_step (by rfl) (N := 6) rfl (cs := #[.int .i64 0]) (t := 3) ?hr ?_; (case hr => first | (go_simp; done) | (go_simp; rfl))
          intro g6 e2 wq2 x6 b2
          refine hK.out _ _ ⟨(pw_cell_below b2 hHeld.1), (pw_cell_below b2 hHeld.2)⟩ (fun hHeld => ?_)
          clear hK K
          refine norm_ (a' := ?_) ?_ ?_
          rotate_left
          · show Act.put _ (some 6) _ = _
            simp only [Act.put, List.setIfInBounds_toArray, List.set_cons_zero, List.set_cons_succ, i64_w, i32_w]
            rfl
          refine one_ (i := 5) (N := some 5) #[true, true, true, true, true, true, true, true, false, false, false, false] rfl rfl (by kernel_rfl) (by decide) (fun K hK => ?_)
          refine box_step (by rfl) (N := 5) rfl (cs := #[.int .i64 0]) (t := 3) ?hr ?_; (case hr => first | (go_simp; done) | (go_simp; rfl))
          intro g5 e3 wq3 x5 b3
          refine hK.out _ _ ⟨(pw_cell_below b3 hHeld.1), (pw_cell_below b3 hHeld.2)⟩ (fun hHeld => ?_)
          clear hK K
          refine norm_ (a' := ?_) ?_ ?_
          rotate_left
          · show Act.put _ (some 5) _ = _
            simp only [Act.put, List.setIfInBounds_toArray, List.set_cons_zero, List.set_cons_succ, i64_w, i32_w]
            rfl
          exact norm_ (by simp only [putAll, Act.put, List.setIfInBounds_toArray, List.set_cons_zero, List.set_cons_succ]) (hCont (g4, g5, g6, g7) _ ⟨⟨below_then (below_then (below_then b0 b0.size b1) (Nat.le_trans b0.size b1.size) b2) (Nat.le_trans b0.size (Nat.le_trans b1.size b2.size)) b3, (blk_below (blk_below (blk_below x4 b1) b2) b3), x5, (blk_below x6 b3), (blk_below (blk_below x7 b2) b3), hz_, hz_, hz_, hz_, hz_, hz_, hz_, hz_, hz_, hz_, hz_⟩, hHeld⟩)
    · skip
      refine box_step (by rfl) (N := 5) rfl (cs := #[.int .i64 0]) (t := 3) ?hr ?_; (case hr => first | (go_simp; done) | (go_simp; rfl))
      intro g5 e0 wq0 x5 b0
      refine hK.out _ _ ⟨(pw_cell_below b0 hHeld.1), (pw_cell_below b0 hHeld.2)⟩ (fun hHeld => ?_)
      clear hK K
      refine norm_ (a' := ?_) ?_ ?_
      rotate_left
      · show Act.put _ (some 5) _ = _
        simp only [Act.put, List.setIfInBounds_toArray, List.set_cons_zero, List.set_cons_succ, i64_w, i32_w]
        rfl
      refine three_ (i := 4) (j := 6) (k := 7) (Ni := some 4) (Nj := some 6) (Nk := some 7) #[true, true, true, true, true, true, false, false, false, false, false, false] #[true, true, true, true, false, true, true, false, false, false, false, false] #[true, true, true, true, false, true, false, true, false, false, false, false] rfl rfl rfl rfl rfl rfl (by kernel_rfl) (by decide) (by decide) (by decide) (fun K hK => ?_) (fun K hK => ?_) (fun K hK => ?_)
      · skip
        refine box_step (by rfl) (N := 4) rfl (cs := #[.int .i64 0]) (t := 3) ?hr ?_; (case hr => first | (go_simp; done) | (go_simp; rfl))
        intro g4 e1 wq1 x4 b1
        refine hK.out _ _ ⟨(pw_cell_below b1 hHeld.1), (pw_cell_below b1 hHeld.2)⟩ (fun hHeld => ?_)
        clear hK K
        refine norm_ (a' := ?_) ?_ ?_
        rotate_left
        · show Act.put _ (some 4) _ = _
          simp only [Act.put, List.setIfInBounds_toArray, List.set_cons_zero, List.set_cons_succ, i64_w, i32_w]
          rfl
        refine two_ (i := 6) (j := 7) (Ni := some 6) (Nj := some 7) #[true, true, true, true, true, true, true, false, false, false, false, false] #[true, true, true, true, true, true, false, true, false, false, false, false] rfl rfl rfl rfl (by kernel_rfl) (by decide) (by decide) (fun K hK => ?_) (fun K hK => ?_)
        · skip
          refine box_step (by rfl) (N := 6) rfl (cs := #[.int .i64 0]) (t := 3) ?hr ?_; (case hr => first | (go_simp; done) | (go_simp; rfl))
          intro g6 e2 wq2 x6 b2
          refine hK.out _ _ ⟨(pw_cell_below b2 hHeld.1), (pw_cell_below b2 hHeld.2)⟩ (fun hHeld => ?_)
          clear hK K
          refine norm_ (a' := ?_) ?_ ?_
          rotate_left
          · show Act.put _ (some 6) _ = _
            simp only [Act.put, List.setIfInBounds_toArray, List.set_cons_zero, List.set_cons_succ, i64_w, i32_w]
            rfl
          refine one_ (i := 7) (N := some 7) #[true, true, true, true, true, true, true, true, false, false, false, false] rfl rfl (by kernel_rfl) (by decide) (fun K hK => ?_)
          refine box_step (by rfl) (N := 7) rfl (cs := #[.int .i64 0]) (t := 3) ?hr ?_; (case hr => first | (go_simp; done) | (go_simp; rfl))
          intro g7 e3 wq3 x7 b3
          refine hK.out _ _ ⟨(pw_cell_below b3 hHeld.1), (pw_cell_below b3 hHeld.2)⟩ (fun hHeld => ?_)
          clear hK K
          refine norm_ (a' := ?_) ?_ ?_
          rotate_left
          · show Act.put _ (some 7) _ = _
            simp only [Act.put, List.setIfInBounds_toArray, List.set_cons_zero, List.set_cons_succ, i64_w, i32_w]
            rfl
          exact norm_ (by simp only [putAll, Act.put, List.setIfInBounds_toArray, List.set_cons_zero, List.set_cons_succ]) (hCont (g4, g5, g6, g7) _ ⟨⟨below_then (below_then (below_then b0 b0.size b1) (Nat.le_trans b0.size b1.size) b2) (Nat.le_trans b0.size (Nat.le_trans b1.size b2.size)) b3, (blk_below (blk_below x4 b2) b3), (blk_below (blk_below (blk_below x5 b1) b2) b3), (blk_below x6 b3), x7, hz_, hz_, hz_, hz_, hz_, hz_, hz_, hz_, hz_, hz_, hz_⟩, hHeld⟩)
        · skip
          refine box_step (by rfl) (N := 7) rfl (cs := #[.int .i64 0]) (t := 3) ?hr ?_; (case hr => first | (go_simp; done) | (go_simp; rfl))
          intro g7 e2 wq2 x7 b2
          refine hK.out _ _ ⟨(pw_cell_below b2 hHeld.1), (pw_cell_below b2 hHeld.2)⟩ (fun hHeld => ?_)
          clear hK K
          refine norm_ (a' := ?_) ?_ ?_
          rotate_left
          · show Act.put _ (some 7) _ = _
            simp only [Act.put, List.setIfInBounds_toArray, List.set_cons_zero, List.set_cons_succ, i64_w, i32_w]
            rfl
          refine one_ (i := 6) (N := some 6) #[true, true, true, true, true, true, true, true, false, false, false, false] rfl rfl (by kernel_rfl) (by decide) (fun K hK => ?_)
          refine box_step (by rfl) (N := 6) rfl (cs := #[.int .i64 0]) (t := 3) ?hr ?_; (case hr => first | (go_simp; done) | (go_simp; rfl))
          intro g6 e3 wq3 x6 b3
          refine hK.out _ _ ⟨(pw_cell_below b3 hHeld.1), (pw_cell_below b3 hHeld.2)⟩ (fun hHeld => ?_)
          clear hK K
          refine norm_ (a' := ?_) ?_ ?_
          rotate_left
          · show Act.put _ (some 6) _ = _
            simp only [Act.put, List.setIfInBounds_toArray, List.set_cons_zero, List.set_cons_succ, i64_w, i32_w]
            rfl
          exact norm_ (by simp only [putAll, Act.put, List.setIfInBounds_toArray, List.set_cons_zero, List.set_cons_succ]) (hCont (g4, g5, g6, g7) _ ⟨⟨below_then (below_then (below_then b0 b0.size b1) (Nat.le_trans b0.size b1.size) b2) (Nat.le_trans b0.size (Nat.le_trans b1.size b2.size)) b3, (blk_below (blk_below x4 b2) b3), (blk_below (blk_below (blk_below x5 b1) b2) b3), x6, (blk_below x7 b3), hz_, hz_, hz_, hz_, hz_, hz_, hz_, hz_, hz_, hz_, hz_⟩, hHeld⟩)
      · skip
        refine box_step (by rfl) (N := 6) rfl (cs := #[.int .i64 0]) (t := 3) ?hr ?_; (case hr => first | (go_simp; done) | (go_simp; rfl))
        intro g6 e1 wq1 x6 b1
        refine hK.out _ _ ⟨(pw_cell_below b1 hHeld.1), (pw_cell_below b1 hHeld.2)⟩ (fun hHeld => ?_)
        clear hK K
        refine norm_ (a' := ?_) ?_ ?_
        rotate_left
        · show Act.put _ (some 6) _ = _
          simp only [Act.put, List.setIfInBounds_toArray, List.set_cons_zero, List.set_cons_succ, i64_w, i32_w]
          rfl
        refine two_ (i := 4) (j := 7) (Ni := some 4) (Nj := some 7) #[true, true, true, true, true, true, true, false, false, false, false, false] #[true, true, true, true, false, true, true, true, false, false, false, false] rfl rfl rfl rfl (by kernel_rfl) (by decide) (by decide) (fun K hK => ?_) (fun K hK => ?_)
        · skip
          refine box_step (by rfl) (N := 4) rfl (cs := #[.int .i64 0]) (t := 3) ?hr ?_; (case hr => first | (go_simp; done) | (go_simp; rfl))
          intro g4 e2 wq2 x4 b2
          refine hK.out _ _ ⟨(pw_cell_below b2 hHeld.1), (pw_cell_below b2 hHeld.2)⟩ (fun hHeld => ?_)
          clear hK K
          refine norm_ (a' := ?_) ?_ ?_
          rotate_left
          · show Act.put _ (some 4) _ = _
            simp only [Act.put, List.setIfInBounds_toArray, List.set_cons_zero, List.set_cons_succ, i64_w, i32_w]
            rfl
          refine one_ (i := 7) (N := some 7) #[true, true, true, true, true, true, true, true, false, false, false, false] rfl rfl (by kernel_rfl) (by decide) (fun K hK => ?_)
          refine box_step (by rfl) (N := 7) rfl (cs := #[.int .i64 0]) (t := 3) ?hr ?_; (case hr => first | (go_simp; done) | (go_simp; rfl))
          intro g7 e3 wq3 x7 b3
          refine hK.out _ _ ⟨(pw_cell_below b3 hHeld.1), (pw_cell_below b3 hHeld.2)⟩ (fun hHeld => ?_)
          clear hK K
          refine norm_ (a' := ?_) ?_ ?_
          rotate_left
          · show Act.put _ (some 7) _ = _
            simp only [Act.put, List.setIfInBounds_toArray, List.set_cons_zero, List.set_cons_succ, i64_w, i32_w]
            rfl
          exact norm_ (by simp only [putAll, Act.put, List.setIfInBounds_toArray, List.set_cons_zero, List.set_cons_succ]) (hCont (g4, g5, g6, g7) _ ⟨⟨below_then (below_then (below_then b0 b0.size b1) (Nat.le_trans b0.size b1.size) b2) (Nat.le_trans b0.size (Nat.le_trans b1.size b2.size)) b3, (blk_below x4 b3), (blk_below (blk_below (blk_below x5 b1) b2) b3), (blk_below (blk_below x6 b2) b3), x7, hz_, hz_, hz_, hz_, hz_, hz_, hz_, hz_, hz_, hz_, hz_⟩, hHeld⟩)
        · skip
          refine box_step (by rfl) (N := 7) rfl (cs := #[.int .i64 0]) (t := 3) ?hr ?_; (case hr => first | (go_simp; done) | (go_simp; rfl))
          intro g7 e2 wq2 x7 b2
          refine hK.out _ _ ⟨(pw_cell_below b2 hHeld.1), (pw_cell_below b2 hHeld.2)⟩ (fun hHeld => ?_)
          clear hK K
          refine norm_ (a' := ?_) ?_ ?_
          rotate_left
          · show Act.put _ (some 7) _ = _
            simp only [Act.put, List.setIfInBounds_toArray, List.set_cons_zero, List.set_cons_succ, i64_w, i32_w]
            rfl
          refine one_ (i := 4) (N := some 4) #[true, true, true, true, true, true, true, true, false, false, false, false] rfl rfl (by kernel_rfl) (by decide) (fun K hK => ?_)
          refine box_step (by rfl) (N := 4) rfl (cs := #[.int .i64 0]) (t := 3) ?hr ?_; (case hr => first | (go_simp; done) | (go_simp; rfl))
          intro g4 e3 wq3 x4 b3
          refine hK.out _ _ ⟨(pw_cell_below b3 hHeld.1), (pw_cell_below b3 hHeld.2)⟩ (fun hHeld => ?_)
          clear hK K
          refine norm_ (a' := ?_) ?_ ?_
          rotate_left
          · show Act.put _ (some 4) _ = _
            simp only [Act.put, List.setIfInBounds_toArray, List.set_cons_zero, List.set_cons_succ, i64_w, i32_w]
            rfl
          exact norm_ (by simp only [putAll, Act.put, List.setIfInBounds_toArray, List.set_cons_zero, List.set_cons_succ]) (hCont (g4, g5, g6, g7) _ ⟨⟨below_then (below_then (below_then b0 b0.size b1) (Nat.le_trans b0.size b1.size) b2) (Nat.le_trans b0.size (Nat.le_trans b1.size b2.size)) b3, x4, (blk_below (blk_below (blk_below x5 b1) b2) b3), (blk_below (blk_below x6 b2) b3), (blk_below x7 b3), hz_, hz_, hz_, hz_, hz_, hz_, hz_, hz_, hz_, hz_, hz_⟩, hHeld⟩)
      · skip
        refine box_step (by rfl) (N := 7) rfl (cs := #[.int .i64 0]) (t := 3) ?hr ?_; (case hr => first | (go_simp; done) | (go_simp; rfl))
        intro g7 e1 wq1 x7 b1
        refine hK.out _ _ ⟨(pw_cell_below b1 hHeld.1), (pw_cell_below b1 hHeld.2)⟩ (fun hHeld => ?_)
        clear hK K
        refine norm_ (a' := ?_) ?_ ?_
        rotate_left
        · show Act.put _ (some 7) _ = _
          simp only [Act.put, List.setIfInBounds_toArray, List.set_cons_zero, List.set_cons_succ, i64_w, i32_w]
          rfl
        refine two_ (i := 4) (j := 6) (Ni := some 4) (Nj := some 6) #[true, true, true, true, true, true, false, true, false, false, false, false] #[true, true, true, true, false, true, true, true, false, false, false, false] rfl rfl rfl rfl (by kernel_rfl) (by decide) (by decide) (fun K hK => ?_) (fun K hK => ?_)
        · skip
          refine box_step (by rfl) (N := 4) rfl (cs := #[.int .i64 0]) (t := 3) ?hr ?_; (case hr => first | (go_simp; done) | (go_simp; rfl))
          intro g4 e2 wq2 x4 b2
          refine hK.out _ _ ⟨(pw_cell_below b2 hHeld.1), (pw_cell_below b2 hHeld.2)⟩ (fun hHeld => ?_)
          clear hK K
          refine norm_ (a' := ?_) ?_ ?_
          rotate_left
          · show Act.put _ (some 4) _ = _
            simp only [Act.put, List.setIfInBounds_toArray, List.set_cons_zero, List.set_cons_succ, i64_w, i32_w]
            rfl
          refine one_ (i := 6) (N := some 6) #[true, true, true, true, true, true, true, true, false, false, false, false] rfl rfl (by kernel_rfl) (by decide) (fun K hK => ?_)
          refine box_step (by rfl) (N := 6) rfl (cs := #[.int .i64 0]) (t := 3) ?hr ?_; (case hr => first | (go_simp; done) | (go_simp; rfl))
          intro g6 e3 wq3 x6 b3
          refine hK.out _ _ ⟨(pw_cell_below b3 hHeld.1), (pw_cell_below b3 hHeld.2)⟩ (fun hHeld => ?_)
          clear hK K
          refine norm_ (a' := ?_) ?_ ?_
          rotate_left
          · show Act.put _ (some 6) _ = _
            simp only [Act.put, List.setIfInBounds_toArray, List.set_cons_zero, List.set_cons_succ, i64_w, i32_w]
            rfl
          exact norm_ (by simp only [putAll, Act.put, List.setIfInBounds_toArray, List.set_cons_zero, List.set_cons_succ]) (hCont (g4, g5, g6, g7) _ ⟨⟨below_then (below_then (below_then b0 b0.size b1) (Nat.le_trans b0.size b1.size) b2) (Nat.le_trans b0.size (Nat.le_trans b1.size b2.size)) b3, (blk_below x4 b3), (blk_below (blk_below (blk_below x5 b1) b2) b3), x6, (blk_below (blk_below x7 b2) b3), hz_, hz_, hz_, hz_, hz_, hz_, hz_, hz_, hz_, hz_, hz_⟩, hHeld⟩)
        · skip
          refine box_step (by rfl) (N := 6) rfl (cs := #[.int .i64 0]) (t := 3) ?hr ?_; (case hr => first | (go_simp; done) | (go_simp; rfl))
          intro g6 e2 wq2 x6 b2
          refine hK.out _ _ ⟨(pw_cell_below b2 hHeld.1), (pw_cell_below b2 hHeld.2)⟩ (fun hHeld => ?_)
          clear hK K
          refine norm_ (a' := ?_) ?_ ?_
          rotate_left
          · show Act.put _ (some 6) _ = _
            simp only [Act.put, List.setIfInBounds_toArray, List.set_cons_zero, List.set_cons_succ, i64_w, i32_w]
            rfl
          refine one_ (i := 4) (N := some 4) #[true, true, true, true, true, true, true, true, false, false, false, false] rfl rfl (by kernel_rfl) (by decide) (fun K hK => ?_)
          refine box_step (by rfl) (N := 4) rfl (cs := #[.int .i64 0]) (t := 3) ?hr ?_; (case hr => first | (go_simp; done) | (go_simp; rfl))
          intro g4 e3 wq3 x4 b3
          refine hK.out _ _ ⟨(pw_cell_below b3 hHeld.1), (pw_cell_below b3 hHeld.2)⟩ (fun hHeld => ?_)
          clear hK K
          refine norm_ (a' := ?_) ?_ ?_
          rotate_left
          · show Act.put _ (some 4) _ = _
            simp only [Act.put, List.setIfInBounds_toArray, List.set_cons_zero, List.set_cons_succ, i64_w, i32_w]
            rfl
          exact norm_ (by simp only [putAll, Act.put, List.setIfInBounds_toArray, List.set_cons_zero, List.set_cons_succ]) (hCont (g4, g5, g6, g7) _ ⟨⟨below_then (below_then (below_then b0 b0.size b1) (Nat.le_trans b0.size b1.size) b2) (Nat.le_trans b0.size (Nat.le_trans b1.size b2.size)) b3, x4, (blk_below (blk_below (blk_below x5 b1) b2) b3), (blk_below x6 b3), (blk_below (blk_below x7 b2) b3), hz_, hz_, hz_, hz_, hz_, hz_, hz_, hz_, hz_, hz_, hz_⟩, hHeld⟩)
    · skip
      refine box_step (by rfl) (N := 6) rfl (cs := #[.int .i64 0]) (t := 3) ?hr ?_; (case hr => first | (go_simp; done) | (go_simp; rfl))
      intro g6 e0 wq0 x6 b0
      refine hK.out _ _ ⟨(pw_cell_below b0 hHeld.1), (pw_cell_below b0 hHeld.2)⟩ (fun hHeld => ?_)
      clear hK K
      refine norm_ (a' := ?_) ?_ ?_
      rotate_left
      · show Act.put _ (some 6) _ = _
        simp only [Act.put, List.setIfInBounds_toArray, List.set_cons_zero, List.set_cons_succ, i64_w, i32_w]
        rfl
      refine three_ (i := 4) (j := 5) (k := 7) (Ni := some 4) (Nj := some 5) (Nk := some 7) #[true, true, true, true, true, false, true, false, false, false, false, false] #[true, true, true, true, false, true, true, false, false, false, false, false] #[true, true, true, true, false, false, true, true, false, false, false, false] rfl rfl rfl rfl rfl rfl (by kernel_rfl) (by decide) (by decide) (by decide) (fun K hK => ?_) (fun K hK => ?_) (fun K hK => ?_)
      · skip
        refine box_step (by rfl) (N := 4) rfl (cs := #[.int .i64 0]) (t := 3) ?hr ?_; (case hr => first | (go_simp; done) | (go_simp; rfl))
        intro g4 e1 wq1 x4 b1
        refine hK.out _ _ ⟨(pw_cell_below b1 hHeld.1), (pw_cell_below b1 hHeld.2)⟩ (fun hHeld => ?_)
        clear hK K
        refine norm_ (a' := ?_) ?_ ?_
        rotate_left
        · show Act.put _ (some 4) _ = _
          simp only [Act.put, List.setIfInBounds_toArray, List.set_cons_zero, List.set_cons_succ, i64_w, i32_w]
          rfl
        refine two_ (i := 5) (j := 7) (Ni := some 5) (Nj := some 7) #[true, true, true, true, true, true, true, false, false, false, false, false] #[true, true, true, true, true, false, true, true, false, false, false, false] rfl rfl rfl rfl (by kernel_rfl) (by decide) (by decide) (fun K hK => ?_) (fun K hK => ?_)
        · skip
          refine box_step (by rfl) (N := 5) rfl (cs := #[.int .i64 0]) (t := 3) ?hr ?_; (case hr => first | (go_simp; done) | (go_simp; rfl))
          intro g5 e2 wq2 x5 b2
          refine hK.out _ _ ⟨(pw_cell_below b2 hHeld.1), (pw_cell_below b2 hHeld.2)⟩ (fun hHeld => ?_)
          clear hK K
          refine norm_ (a' := ?_) ?_ ?_
          rotate_left
          · show Act.put _ (some 5) _ = _
            simp only [Act.put, List.setIfInBounds_toArray, List.set_cons_zero, List.set_cons_succ, i64_w, i32_w]
            rfl
          refine one_ (i := 7) (N := some 7) #[true, true, true, true, true, true, true, true, false, false, false, false] rfl rfl (by kernel_rfl) (by decide) (fun K hK => ?_)
          refine box_step (by rfl) (N := 7) rfl (cs := #[.int .i64 0]) (t := 3) ?hr ?_; (case hr => first | (go_simp; done) | (go_simp; rfl))
          intro g7 e3 wq3 x7 b3
          refine hK.out _ _ ⟨(pw_cell_below b3 hHeld.1), (pw_cell_below b3 hHeld.2)⟩ (fun hHeld => ?_)
          clear hK K
          refine norm_ (a' := ?_) ?_ ?_
          rotate_left
          · show Act.put _ (some 7) _ = _
            simp only [Act.put, List.setIfInBounds_toArray, List.set_cons_zero, List.set_cons_succ, i64_w, i32_w]
            rfl
          exact norm_ (by simp only [putAll, Act.put, List.setIfInBounds_toArray, List.set_cons_zero, List.set_cons_succ]) (hCont (g4, g5, g6, g7) _ ⟨⟨below_then (below_then (below_then b0 b0.size b1) (Nat.le_trans b0.size b1.size) b2) (Nat.le_trans b0.size (Nat.le_trans b1.size b2.size)) b3, (blk_below (blk_below x4 b2) b3), (blk_below x5 b3), (blk_below (blk_below (blk_below x6 b1) b2) b3), x7, hz_, hz_, hz_, hz_, hz_, hz_, hz_, hz_, hz_, hz_, hz_⟩, hHeld⟩)
        · skip
          refine box_step (by rfl) (N := 7) rfl (cs := #[.int .i64 0]) (t := 3) ?hr ?_; (case hr => first | (go_simp; done) | (go_simp; rfl))
          intro g7 e2 wq2 x7 b2
          refine hK.out _ _ ⟨(pw_cell_below b2 hHeld.1), (pw_cell_below b2 hHeld.2)⟩ (fun hHeld => ?_)
          clear hK K
          refine norm_ (a' := ?_) ?_ ?_
          rotate_left
          · show Act.put _ (some 7) _ = _
            simp only [Act.put, List.setIfInBounds_toArray, List.set_cons_zero, List.set_cons_succ, i64_w, i32_w]
            rfl
          refine one_ (i := 5) (N := some 5) #[true, true, true, true, true, true, true, true, false, false, false, false] rfl rfl (by kernel_rfl) (by decide) (fun K hK => ?_)
          refine box_step (by rfl) (N := 5) rfl (cs := #[.int .i64 0]) (t := 3) ?hr ?_; (case hr => first | (go_simp; done) | (go_simp; rfl))
          intro g5 e3 wq3 x5 b3
          refine hK.out _ _ ⟨(pw_cell_below b3 hHeld.1), (pw_cell_below b3 hHeld.2)⟩ (fun hHeld => ?_)
          clear hK K
          refine norm_ (a' := ?_) ?_ ?_
          rotate_left
          · show Act.put _ (some 5) _ = _
            simp only [Act.put, List.setIfInBounds_toArray, List.set_cons_zero, List.set_cons_succ, i64_w, i32_w]
            rfl
          exact norm_ (by simp only [putAll, Act.put, List.setIfInBounds_toArray, List.set_cons_zero, List.set_cons_succ]) (hCont (g4, g5, g6, g7) _ ⟨⟨below_then (below_then (below_then b0 b0.size b1) (Nat.le_trans b0.size b1.size) b2) (Nat.le_trans b0.size (Nat.le_trans b1.size b2.size)) b3, (blk_below (blk_below x4 b2) b3), x5, (blk_below (blk_below (blk_below x6 b1) b2) b3), (blk_below x7 b3), hz_, hz_, hz_, hz_, hz_, hz_, hz_, hz_, hz_, hz_, hz_⟩, hHeld⟩)
      · skip
        refine box_step (by rfl) (N := 5) rfl (cs := #[.int .i64 0]) (t := 3) ?hr ?_; (case hr => first | (go_simp; done) | (go_simp; rfl))
        intro g5 e1 wq1 x5 b1
        refine hK.out _ _ ⟨(pw_cell_below b1 hHeld.1), (pw_cell_below b1 hHeld.2)⟩ (fun hHeld => ?_)
        clear hK K
        refine norm_ (a' := ?_) ?_ ?_
        rotate_left
        · show Act.put _ (some 5) _ = _
          simp only [Act.put, List.setIfInBounds_toArray, List.set_cons_zero, List.set_cons_succ, i64_w, i32_w]
          rfl
        refine two_ (i := 4) (j := 7) (Ni := some 4) (Nj := some 7) #[true, true, true, true, true, true, true, false, false, false, false, false] #[true, true, true, true, false, true, true, true, false, false, false, false] rfl rfl rfl rfl (by kernel_rfl) (by decide) (by decide) (fun K hK => ?_) (fun K hK => ?_)
        · skip
          refine box_step (by rfl) (N := 4) rfl (cs := #[.int .i64 0]) (t := 3) ?hr ?_; (case hr => first | (go_simp; done) | (go_simp; rfl))
          intro g4 e2 wq2 x4 b2
          refine hK.out _ _ ⟨(pw_cell_below b2 hHeld.1), (pw_cell_below b2 hHeld.2)⟩ (fun hHeld => ?_)
          clear hK K
          refine norm_ (a' := ?_) ?_ ?_
          rotate_left
          · show Act.put _ (some 4) _ = _
            simp only [Act.put, List.setIfInBounds_toArray, List.set_cons_zero, List.set_cons_succ, i64_w, i32_w]
            rfl
          refine one_ (i := 7) (N := some 7) #[true, true, true, true, true, true, true, true, false, false, false, false] rfl rfl (by kernel_rfl) (by decide) (fun K hK => ?_)
          refine box_step (by rfl) (N := 7) rfl (cs := #[.int .i64 0]) (t := 3) ?hr ?_; (case hr => first | (go_simp; done) | (go_simp; rfl))
          intro g7 e3 wq3 x7 b3
          refine hK.out _ _ ⟨(pw_cell_below b3 hHeld.1), (pw_cell_below b3 hHeld.2)⟩ (fun hHeld => ?_)
          clear hK K
          refine norm_ (a' := ?_) ?_ ?_
          rotate_left
          · show Act.put _ (some 7) _ = _
            simp only [Act.put, List.setIfInBounds_toArray, List.set_cons_zero, List.set_cons_succ, i64_w, i32_w]
            rfl
          exact norm_ (by simp only [putAll, Act.put, List.setIfInBounds_toArray, List.set_cons_zero, List.set_cons_succ]) (hCont (g4, g5, g6, g7) _ ⟨⟨below_then (below_then (below_then b0 b0.size b1) (Nat.le_trans b0.size b1.size) b2) (Nat.le_trans b0.size (Nat.le_trans b1.size b2.size)) b3, (blk_below x4 b3), (blk_below (blk_below x5 b2) b3), (blk_below (blk_below (blk_below x6 b1) b2) b3), x7, hz_, hz_, hz_, hz_, hz_, hz_, hz_, hz_, hz_, hz_, hz_⟩, hHeld⟩)
        · skip
          refine box_step (by rfl) (N := 7) rfl (cs := #[.int .i64 0]) (t := 3) ?hr ?_; (case hr => first | (go_simp; done) | (go_simp; rfl))
          intro g7 e2 wq2 x7 b2
          refine hK.out _ _ ⟨(pw_cell_below b2 hHeld.1), (pw_cell_below b2 hHeld.2)⟩ (fun hHeld => ?_)
          clear hK K
          refine norm_ (a' := ?_) ?_ ?_
          rotate_left
          · show Act.put _ (some 7) _ = _
            simp only [Act.put, List.setIfInBounds_toArray, List.set_cons_zero, List.set_cons_succ, i64_w, i32_w]
            rfl
          refine one_ (i := 4) (N := some 4) #[true, true, true, true, true, true, true, true, false, false, false, false] rfl rfl (by kernel_rfl) (by decide) (fun K hK => ?_)
          refine box_step (by rfl) (N := 4) rfl (cs := #[.int .i64 0]) (t := 3) ?hr ?_; (case hr => first | (go_simp; done) | (go_simp; rfl))
          intro g4 e3 wq3 x4 b3
          refine hK.out _ _ ⟨(pw_cell_below b3 hHeld.1), (pw_cell_below b3 hHeld.2)⟩ (fun hHeld => ?_)
          clear hK K
          refine norm_ (a' := ?_) ?_ ?_
          rotate_left
          · show Act.put _ (some 4) _ = _
            simp only [Act.put, List.setIfInBounds_toArray, List.set_cons_zero, List.set_cons_succ, i64_w, i32_w]
            rfl
          exact norm_ (by simp only [putAll, Act.put, List.setIfInBounds_toArray, List.set_cons_zero, List.set_cons_succ]) (hCont (g4, g5, g6, g7) _ ⟨⟨below_then (below_then (below_then b0 b0.size b1) (Nat.le_trans b0.size b1.size) b2) (Nat.le_trans b0.size (Nat.le_trans b1.size b2.size)) b3, x4, (blk_below (blk_below x5 b2) b3), (blk_below (blk_below (blk_below x6 b1) b2) b3), (blk_below x7 b3), hz_, hz_, hz_, hz_, hz_, hz_, hz_, hz_, hz_, hz_, hz_⟩, hHeld⟩)
      · skip
        refine box_step (by rfl) (N := 7) rfl (cs := #[.int .i64 0]) (t := 3) ?hr ?_; (case hr => first | (go_simp; done) | (go_simp; rfl))
        intro g7 e1 wq1 x7 b1
        refine hK.out _ _ ⟨(pw_cell_below b1 hHeld.1), (pw_cell_below b1 hHeld.2)⟩ (fun hHeld => ?_)
        clear hK K
        refine norm_ (a' := ?_) ?_ ?_
        rotate_left
        · show Act.put _ (some 7) _ = _
          simp only [Act.put, List.setIfInBounds_toArray, List.set_cons_zero, List.set_cons_succ, i64_w, i32_w]
          rfl
        refine two_ (i := 4) (j := 5) (Ni := some 4) (Nj := some 5) #[true, true, true, true, true, false, true, true, false, false, false, false] #[true, true, true, true, false, true, true, true, false, false, false, false] rfl rfl rfl rfl (by kernel_rfl) (by decide) (by decide) (fun K hK => ?_) (fun K hK => ?_)
        · skip
          refine box_step (by rfl) (N := 4) rfl (cs := #[.int .i64 0]) (t := 3) ?hr ?_; (case hr => first | (go_simp; done) | (go_simp; rfl))
          intro g4 e2 wq2 x4 b2
          refine hK.out _ _ ⟨(pw_cell_below b2 hHeld.1), (pw_cell_below b2 hHeld.2)⟩ (fun hHeld => ?_)
          clear hK K
          refine norm_ (a' := ?_) ?_ ?_
          rotate_left
          · show Act.put _ (some 4) _ = _
            simp only [Act.put, List.setIfInBounds_toArray, List.set_cons_zero, List.set_cons_succ, i64_w, i32_w]
            rfl
          refine one_ (i := 5) (N := some 5) #[true, true, true, true, true, true, true, true, false, false, false, false] rfl rfl (by kernel_rfl) (by decide) (fun K hK => ?_)
          refine box_step (by rfl) (N := 5) rfl (cs := #[.int .i64 0]) (t := 3) ?hr ?_; (case hr => first | (go_simp; done) | (go_simp; rfl))
          intro g5 e3 wq3 x5 b3
          refine hK.out _ _ ⟨(pw_cell_below b3 hHeld.1), (pw_cell_below b3 hHeld.2)⟩ (fun hHeld => ?_)
          clear hK K
          refine norm_ (a' := ?_) ?_ ?_
          rotate_left
          · show Act.put _ (some 5) _ = _
            simp only [Act.put, List.setIfInBounds_toArray, List.set_cons_zero, List.set_cons_succ, i64_w, i32_w]
            rfl
          exact norm_ (by simp only [putAll, Act.put, List.setIfInBounds_toArray, List.set_cons_zero, List.set_cons_succ]) (hCont (g4, g5, g6, g7) _ ⟨⟨below_then (below_then (below_then b0 b0.size b1) (Nat.le_trans b0.size b1.size) b2) (Nat.le_trans b0.size (Nat.le_trans b1.size b2.size)) b3, (blk_below x4 b3), x5, (blk_below (blk_below (blk_below x6 b1) b2) b3), (blk_below (blk_below x7 b2) b3), hz_, hz_, hz_, hz_, hz_, hz_, hz_, hz_, hz_, hz_, hz_⟩, hHeld⟩)
        · skip
          refine box_step (by rfl) (N := 5) rfl (cs := #[.int .i64 0]) (t := 3) ?hr ?_; (case hr => first | (go_simp; done) | (go_simp; rfl))
          intro g5 e2 wq2 x5 b2
          refine hK.out _ _ ⟨(pw_cell_below b2 hHeld.1), (pw_cell_below b2 hHeld.2)⟩ (fun hHeld => ?_)
          clear hK K
          refine norm_ (a' := ?_) ?_ ?_
          rotate_left
          · show Act.put _ (some 5) _ = _
            simp only [Act.put, List.setIfInBounds_toArray, List.set_cons_zero, List.set_cons_succ, i64_w, i32_w]
            rfl
          refine one_ (i := 4) (N := some 4) #[true, true, true, true, true, true, true, true, false, false, false, false] rfl rfl (by kernel_rfl) (by decide) (fun K hK => ?_)
          refine box_step (by rfl) (N := 4) rfl (cs := #[.int .i64 0]) (t := 3) ?hr ?_; (case hr => first | (go_simp; done) | (go_simp; rfl))
          intro g4 e3 wq3 x4 b3
          refine hK.out _ _ ⟨(pw_cell_below b3 hHeld.1), (pw_cell_below b3 hHeld.2)⟩ (fun hHeld => ?_)
          clear hK K
          refine norm_ (a' := ?_) ?_ ?_
          rotate_left
          · show Act.put _ (some 4) _ = _
            simp only [Act.put, List.setIfInBounds_toArray, List.set_cons_zero, List.set_cons_succ, i64_w, i32_w]
            rfl
          exact norm_ (by simp only [putAll, Act.put, List.setIfInBounds_toArray, List.set_cons_zero, List.set_cons_succ]) (hCont (g4, g5, g6, g7) _ ⟨⟨below_then (below_then (below_then b0 b0.size b1) (Nat.le_trans b0.size b1.size) b2) (Nat.le_trans b0.size (Nat.le_trans b1.size b2.size)) b3, x4, (blk_below x5 b3), (blk_below (blk_below (blk_below x6 b1) b2) b3), (blk_below (blk_below x7 b2) b3), hz_, hz_, hz_, hz_, hz_, hz_, hz_, hz_, hz_, hz_, hz_⟩, hHeld⟩)
    · skip
      refine box_step (by rfl) (N := 7) rfl (cs := #[.int .i64 0]) (t := 3) ?hr ?_; (case hr => first | (go_simp; done) | (go_simp; rfl))
      intro g7 e0 wq0 x7 b0
      refine hK.out _ _ ⟨(pw_cell_below b0 hHeld.1), (pw_cell_below b0 hHeld.2)⟩ (fun hHeld => ?_)
      clear hK K
      refine norm_ (a' := ?_) ?_ ?_
      rotate_left
      · show Act.put _ (some 7) _ = _
        simp only [Act.put, List.setIfInBounds_toArray, List.set_cons_zero, List.set_cons_succ, i64_w, i32_w]
        rfl
      refine three_ (i := 4) (j := 5) (k := 6) (Ni := some 4) (Nj := some 5) (Nk := some 6) #[true, true, true, true, true, false, false, true, false, false, false, false] #[true, true, true, true, false, true, false, true, false, false, false, false] #[true, true, true, true, false, false, true, true, false, false, false, false] rfl rfl rfl rfl rfl rfl (by kernel_rfl) (by decide) (by decide) (by decide) (fun K hK => ?_) (fun K hK => ?_) (fun K hK => ?_)
      · skip
        refine box_step (by rfl) (N := 4) rfl (cs := #[.int .i64 0]) (t := 3) ?hr ?_; (case hr => first | (go_simp; done) | (go_simp; rfl))
        intro g4 e1 wq1 x4 b1
        refine hK.out _ _ ⟨(pw_cell_below b1 hHeld.1), (pw_cell_below b1 hHeld.2)⟩ (fun hHeld => ?_)
        clear hK K
        refine norm_ (a' := ?_) ?_ ?_
        rotate_left
        · show Act.put _ (some 4) _ = _
          simp only [Act.put, List.setIfInBounds_toArray, List.set_cons_zero, List.set_cons_succ, i64_w, i32_w]
          rfl
        refine two_ (i := 5) (j := 6) (Ni := some 5) (Nj := some 6) #[true, true, true, true, true, true, false, true, false, false, false, false] #[true, true, true, true, true, false, true, true, false, false, false, false] rfl rfl rfl rfl (by kernel_rfl) (by decide) (by decide) (fun K hK => ?_) (fun K hK => ?_)
        · skip
          refine box_step (by rfl) (N := 5) rfl (cs := #[.int .i64 0]) (t := 3) ?hr ?_; (case hr => first | (go_simp; done) | (go_simp; rfl))
          intro g5 e2 wq2 x5 b2
          refine hK.out _ _ ⟨(pw_cell_below b2 hHeld.1), (pw_cell_below b2 hHeld.2)⟩ (fun hHeld => ?_)
          clear hK K
          refine norm_ (a' := ?_) ?_ ?_
          rotate_left
          · show Act.put _ (some 5) _ = _
            simp only [Act.put, List.setIfInBounds_toArray, List.set_cons_zero, List.set_cons_succ, i64_w, i32_w]
            rfl
          refine one_ (i := 6) (N := some 6) #[true, true, true, true, true, true, true, true, false, false, false, false] rfl rfl (by kernel_rfl) (by decide) (fun K hK => ?_)
          refine box_step (by rfl) (N := 6) rfl (cs := #[.int .i64 0]) (t := 3) ?hr ?_; (case hr => first | (go_simp; done) | (go_simp; rfl))
          intro g6 e3 wq3 x6 b3
          refine hK.out _ _ ⟨(pw_cell_below b3 hHeld.1), (pw_cell_below b3 hHeld.2)⟩ (fun hHeld => ?_)
          clear hK K
          refine norm_ (a' := ?_) ?_ ?_
          rotate_left
          · show Act.put _ (some 6) _ = _
            simp only [Act.put, List.setIfInBounds_toArray, List.set_cons_zero, List.set_cons_succ, i64_w, i32_w]
            rfl
          exact norm_ (by simp only [putAll, Act.put, List.setIfInBounds_toArray, List.set_cons_zero, List.set_cons_succ]) (hCont (g4, g5, g6, g7) _ ⟨⟨below_then (below_then (below_then b0 b0.size b1) (Nat.le_trans b0.size b1.size) b2) (Nat.le_trans b0.size (Nat.le_trans b1.size b2.size)) b3, (blk_below (blk_below x4 b2) b3), (blk_below x5 b3), x6, (blk_below (blk_below (blk_below x7 b1) b2) b3), hz_, hz_, hz_, hz_, hz_, hz_, hz_, hz_, hz_, hz_, hz_⟩, hHeld⟩)
        · skip
          refine box_step (by rfl) (N := 6) rfl (cs := #[.int .i64 0]) (t := 3) ?hr ?_; (case hr => first | (go_simp; done) | (go_simp; rfl))
          intro g6 e2 wq2 x6 b2
          refine hK.out _ _ ⟨(pw_cell_below b2 hHeld.1), (pw_cell_below b2 hHeld.2)⟩ (fun hHeld => ?_)
          clear hK K
          refine norm_ (a' := ?_) ?_ ?_
          rotate_left
          · show Act.put _ (some 6) _ = _
            simp only [Act.put, List.setIfInBounds_toArray, List.set_cons_zero, List.set_cons_succ, i64_w, i32_w]
            rfl
          refine one_ (i := 5) (N := some 5) #[true, true, true, true, true, true, true, true, false, false, false, false] rfl rfl (by kernel_rfl) (by decide) (fun K hK => ?_)
          refine box_step (by rfl) (N := 5) rfl (cs := #[.int .i64 0]) (t := 3) ?hr ?_; (case hr => first | (go_simp; done) | (go_simp; rfl))
          intro g5 e3 wq3 x5 b3
          refine hK.out _ _ ⟨(pw_cell_below b3 hHeld.1), (pw_cell_below b3 hHeld.2)⟩ (fun hHeld => ?_)
          clear hK K
          refine norm_ (a' := ?_) ?_ ?_
          rotate_left
          · show Act.put _ (some 5) _ = _
            simp only [Act.put, List.setIfInBounds_toArray, List.set_cons_zero, List.set_cons_succ, i64_w, i32_w]
            rfl
          exact norm_ (by simp only [putAll, Act.put, List.setIfInBounds_toArray, List.set_cons_zero, List.set_cons_succ]) (hCont (g4, g5, g6, g7) _ ⟨⟨below_then (below_then (below_then b0 b0.size b1) (Nat.le_trans b0.size b1.size) b2) (Nat.le_trans b0.size (Nat.le_trans b1.size b2.size)) b3, (blk_below (blk_below x4 b2) b3), x5, (blk_below x6 b3), (blk_below (blk_below (blk_below x7 b1) b2) b3), hz_, hz_, hz_, hz_, hz_, hz_, hz_, hz_, hz_, hz_, hz_⟩, hHeld⟩)
      · skip
        refine box_step (by rfl) (N := 5) rfl (cs := #[.int .i64 0]) (t := 3) ?hr ?_; (case hr => first | (go_simp; done) | (go_simp; rfl))
        intro g5 e1 wq1 x5 b1
        refine hK.out _ _ ⟨(pw_cell_below b1 hHeld.1), (pw_cell_below b1 hHeld.2)⟩ (fun hHeld => ?_)
        clear hK K
        refine norm_ (a' := ?_) ?_ ?_
        rotate_left
        · show Act.put _ (some 5) _ = _
          simp only [Act.put, List.setIfInBounds_toArray, List.set_cons_zero, List.set_cons_succ, i64_w, i32_w]
          rfl
        refine two_ (i := 4) (j := 6) (Ni := some 4) (Nj := some 6) #[true, true, true, true, true, true, false, true, false, false, false, false] #[true, true, true, true, false, true, true, true, false, false, false, false] rfl rfl rfl rfl (by kernel_rfl) (by decide) (by decide) (fun K hK => ?_) (fun K hK => ?_)
        · skip
          refine box_step (by rfl) (N := 4) rfl (cs := #[.int .i64 0]) (t := 3) ?hr ?_; (case hr => first | (go_simp; done) | (go_simp; rfl))
          intro g4 e2 wq2 x4 b2
          refine hK.out _ _ ⟨(pw_cell_below b2 hHeld.1), (pw_cell_below b2 hHeld.2)⟩ (fun hHeld => ?_)
          clear hK K
          refine norm_ (a' := ?_) ?_ ?_
          rotate_left
          · show Act.put _ (some 4) _ = _
            simp only [Act.put, List.setIfInBounds_toArray, List.set_cons_zero, List.set_cons_succ, i64_w, i32_w]
            rfl
          refine one_ (i := 6) (N := some 6) #[true, true, true, true, true, true, true, true, false, false, false, false] rfl rfl (by kernel_rfl) (by decide) (fun K hK => ?_)
          refine box_step (by rfl) (N := 6) rfl (cs := #[.int .i64 0]) (t := 3) ?hr ?_; (case hr => first | (go_simp; done) | (go_simp; rfl))
          intro g6 e3 wq3 x6 b3
          refine hK.out _ _ ⟨(pw_cell_below b3 hHeld.1), (pw_cell_below b3 hHeld.2)⟩ (fun hHeld => ?_)
          clear hK K
          refine norm_ (a' := ?_) ?_ ?_
          rotate_left
          · show Act.put _ (some 6) _ = _
            simp only [Act.put, List.setIfInBounds_toArray, List.set_cons_zero, List.set_cons_succ, i64_w, i32_w]
            rfl
          exact norm_ (by simp only [putAll, Act.put, List.setIfInBounds_toArray, List.set_cons_zero, List.set_cons_succ]) (hCont (g4, g5, g6, g7) _ ⟨⟨below_then (below_then (below_then b0 b0.size b1) (Nat.le_trans b0.size b1.size) b2) (Nat.le_trans b0.size (Nat.le_trans b1.size b2.size)) b3, (blk_below x4 b3), (blk_below (blk_below x5 b2) b3), x6, (blk_below (blk_below (blk_below x7 b1) b2) b3), hz_, hz_, hz_, hz_, hz_, hz_, hz_, hz_, hz_, hz_, hz_⟩, hHeld⟩)
        · skip
          refine box_step (by rfl) (N := 6) rfl (cs := #[.int .i64 0]) (t := 3) ?hr ?_; (case hr => first | (go_simp; done) | (go_simp; rfl))
          intro g6 e2 wq2 x6 b2
          refine hK.out _ _ ⟨(pw_cell_below b2 hHeld.1), (pw_cell_below b2 hHeld.2)⟩ (fun hHeld => ?_)
          clear hK K
          refine norm_ (a' := ?_) ?_ ?_
          rotate_left
          · show Act.put _ (some 6) _ = _
            simp only [Act.put, List.setIfInBounds_toArray, List.set_cons_zero, List.set_cons_succ, i64_w, i32_w]
            rfl
          refine one_ (i := 4) (N := some 4) #[true, true, true, true, true, true, true, true, false, false, false, false] rfl rfl (by kernel_rfl) (by decide) (fun K hK => ?_)
          refine box_step (by rfl) (N := 4) rfl (cs := #[.int .i64 0]) (t := 3) ?hr ?_; (case hr => first | (go_simp; done) | (go_simp; rfl))
          intro g4 e3 wq3 x4 b3
          refine hK.out _ _ ⟨(pw_cell_below b3 hHeld.1), (pw_cell_below b3 hHeld.2)⟩ (fun hHeld => ?_)
          clear hK K
          refine norm_ (a' := ?_) ?_ ?_
          rotate_left
          · show Act.put _ (some 4) _ = _
            simp only [Act.put, List.setIfInBounds_toArray, List.set_cons_zero, List.set_cons_succ, i64_w, i32_w]
            rfl
          exact norm_ (by simp only [putAll, Act.put, List.setIfInBounds_toArray, List.set_cons_zero, List.set_cons_succ]) (hCont (g4, g5, g6, g7) _ ⟨⟨below_then (below_then (below_then b0 b0.size b1) (Nat.le_trans b0.size b1.size) b2) (Nat.le_trans b0.size (Nat.le_trans b1.size b2.size)) b3, x4, (blk_below (blk_below x5 b2) b3), (blk_below x6 b3), (blk_below (blk_below (blk_below x7 b1) b2) b3), hz_, hz_, hz_, hz_, hz_, hz_, hz_, hz_, hz_, hz_, hz_⟩, hHeld⟩)
      · skip
        refine box_step (by rfl) (N := 6) rfl (cs := #[.int .i64 0]) (t := 3) ?hr ?_; (case hr => first | (go_simp; done) | (go_simp; rfl))
        intro g6 e1 wq1 x6 b1
        refine hK.out _ _ ⟨(pw_cell_below b1 hHeld.1), (pw_cell_below b1 hHeld.2)⟩ (fun hHeld => ?_)
        clear hK K
        refine norm_ (a' := ?_) ?_ ?_
        rotate_left
        · show Act.put _ (some 6) _ = _
          simp only [Act.put, List.setIfInBounds_toArray, List.set_cons_zero, List.set_cons_succ, i64_w, i32_w]
          rfl
        refine two_ (i := 4) (j := 5) (Ni := some 4) (Nj := some 5) #[true, true, true, true, true, false, true, true, false, false, false, false] #[true, true, true, true, false, true, true, true, false, false, false, false] rfl rfl rfl rfl (by kernel_rfl) (by decide) (by decide) (fun K hK => ?_) (fun K hK => ?_)
        · skip
          refine box_step (by rfl) (N := 4) rfl (cs := #[.int .i64 0]) (t := 3) ?hr ?_; (case hr => first | (go_simp; done) | (go_simp; rfl))
          intro g4 e2 wq2 x4 b2
          refine hK.out _ _ ⟨(pw_cell_below b2 hHeld.1), (pw_cell_below b2 hHeld.2)⟩ (fun hHeld => ?_)
          clear hK K
          refine norm_ (a' := ?_) ?_ ?_
          rotate_left
          · show Act.put _ (some 4) _ = _
            simp only [Act.put, List.setIfInBounds_toArray, List.set_cons_zero, List.set_cons_succ, i64_w, i32_w]
            rfl
          refine one_ (i := 5) (N := some 5) #[true, true, true, true, true, true, true, true, false, false, false, false] rfl rfl (by kernel_rfl) (by decide) (fun K hK => ?_)
          refine box_step (by rfl) (N := 5) rfl (cs := #[.int .i64 0]) (t := 3) ?hr ?_; (case hr => first | (go_simp; done) | (go_simp; rfl))
          intro g5 e3 wq3 x5 b3
          refine hK.out _ _ ⟨(pw_cell_below b3 hHeld.1), (pw_cell_below b3 hHeld.2)⟩ (fun hHeld => ?_)
          clear hK K
          refine norm_ (a' := ?_) ?_ ?_
          rotate_left
          · show Act.put _ (some 5) _ = _
            simp only [Act.put, List.setIfInBounds_toArray, List.set_cons_zero, List.set_cons_succ, i64_w, i32_w]
            rfl
          exact norm_ (by simp only [putAll, Act.put, List.setIfInBounds_toArray, List.set_cons_zero, List.set_cons_succ]) (hCont (g4, g5, g6, g7) _ ⟨⟨below_then (below_then (below_then b0 b0.size b1) (Nat.le_trans b0.size b1.size) b2) (Nat.le_trans b0.size (Nat.le_trans b1.size b2.size)) b3, (blk_below x4 b3), x5, (blk_below (blk_below x6 b2) b3), (blk_below (blk_below (blk_below x7 b1) b2) b3), hz_, hz_, hz_, hz_, hz_, hz_, hz_, hz_, hz_, hz_, hz_⟩, hHeld⟩)
        · skip
          refine box_step (by rfl) (N := 5) rfl (cs := #[.int .i64 0]) (t := 3) ?hr ?_; (case hr => first | (go_simp; done) | (go_simp; rfl))
          intro g5 e2 wq2 x5 b2
          refine hK.out _ _ ⟨(pw_cell_below b2 hHeld.1), (pw_cell_below b2 hHeld.2)⟩ (fun hHeld => ?_)
          clear hK K
          refine norm_ (a' := ?_) ?_ ?_
          rotate_left
          · show Act.put _ (some 5) _ = _
            simp only [Act.put, List.setIfInBounds_toArray, List.set_cons_zero, List.set_cons_succ, i64_w, i32_w]
            rfl
          refine one_ (i := 4) (N := some 4) #[true, true, true, true, true, true, true, true, false, false, false, false] rfl rfl (by kernel_rfl) (by decide) (fun K hK => ?_)
          refine box_step (by rfl) (N := 4) rfl (cs := #[.int .i64 0]) (t := 3) ?hr ?_; (case hr => first | (go_simp; done) | (go_simp; rfl))
          intro g4 e3 wq3 x4 b3
          refine hK.out _ _ ⟨(pw_cell_below b3 hHeld.1), (pw_cell_below b3 hHeld.2)⟩ (fun hHeld => ?_)
          clear hK K
          refine norm_ (a' := ?_) ?_ ?_
          rotate_left
          · show Act.put _ (some 4) _ = _
            simp only [Act.put, List.setIfInBounds_toArray, List.set_cons_zero, List.set_cons_succ, i64_w, i32_w]
            rfl
          exact norm_ (by simp only [putAll, Act.put, List.setIfInBounds_toArray, List.set_cons_zero, List.set_cons_succ]) (hCont (g4, g5, g6, g7) _ ⟨⟨below_then (below_then (below_then b0 b0.size b1) (Nat.le_trans b0.size b1.size) b2) (Nat.le_trans b0.size (Nat.le_trans b1.size b2.size)) b3, x4, (blk_below x5 b3), (blk_below (blk_below x6 b2) b3), (blk_below (blk_below (blk_below x7 b1) b2) b3), hz_, hz_, hz_, hz_, hz_, hz_, hz_, hz_, hz_, hz_, hz_⟩, hHeld⟩)
  rintro ⟨g4, g5, g6, g7⟩ w4 ⟨hF0, hHeld⟩
  have hF1 := Aside0.mk hF0
  have hcx4 : w4.cell? ⟨g4, 0, none⟩ = some (.int .i64 0) := (blk_cell hF0.x4 0).trans rfl
  have hcx5 : w4.cell? ⟨g5, 0, none⟩ = some (.int .i64 0) := (blk_cell hF0.x5 0).trans rfl
  have hcx6 : w4.cell? ⟨g6, 0, none⟩ = some (.int .i64 0) := (blk_cell hF0.x6 0).trans rfl
  have hcx7 : w4.cell? ⟨g7, 0, none⟩ = some (.int .i64 0) := (blk_cell hF0.x7 0).trans rfl
  have hfx4 := blk_frozen hF0.x4 0
  have hfx5 := blk_frozen hF0.x5 0
  have hfx6 := blk_frozen hF0.x6 0
  have hfx7 := blk_frozen hF0.x7 0
  have hn45 := hF0.n45
  have hn46 := hF0.n46
  have hn47 := hF0.n47
  have hn56 := hF0.n56
  have hn57 := hF0.n57
  have hn67 := hF0.n67
  have hn54 := hF0.n45.symm
  have hn64 := hF0.n46.symm
  have hn74 := hF0.n47.symm
  have hn65 := hF0.n56.symm
  have hn75 := hF0.n57.symm
  have hn76 := hF0.n67.symm
  clear hF0
  refine norm_ (a' := ?_) ?_ ?_
  rotate_left
  · simp only [putAll, Act.put, List.setIfInBounds_toArray, List.set_cons_zero, List.set_cons_succ]
    rfl
  refine one_ (i := 8) (N := none) #[true, true, true, true, true, true, true, true, true, false, false, false] rfl rfl (by kernel_rfl) (by decide) (fun K hK => ?_)
  refine skip_ (w1 := ?_) (by rfl) rfl ?_ ?_
  rotate_left
  · go_simp
    rfl
  refine hK.out _ _ ⟨((cell_far (p := ⟨g4, 0, none⟩) hF1.out.n4 _).trans hHeld.1), ((cell_far (p := ⟨g4, 0, none⟩) hF1.out.n4 _).trans hHeld.2)⟩ (fun hHeld => ?_)
  clear hK K
  refine last_ (i := 9) (N := none) #[true, true, true, true, true, true, true, true, true, true, false, false] rfl rfl (by kernel_rfl) (by decide) (fun K hK => ?_)
  refine skip_ (w1 := ?_) (by rfl) rfl ?_ ?_
  rotate_left
  · go_simp
    rfl
  refine hK.out _ _ ?_
  clear hK K
  refine last_ (i := 10) (N := none) #[true, true, true, true, true, true, true, true, true, true, true, false] rfl rfl (by kernel_rfl) (by decide) (fun K hK => ?_)
  refine skip_ (w1 := ?_) (by rfl) rfl ?_ ?_
  rotate_left
  · go_simp
    rfl
  refine hK.out _ _ ?_
  clear hK K
  refine last_ (i := 11) (N := none) #[true, true, true, true, true, true, true, true, true, true, true, true] rfl rfl (by kernel_rfl) (by decide) (fun K hK => ?_)
  refine skip_ (w1 := ?_) (by rfl) rfl ?_ ?_
  rotate_left
  · go_simp
    rfl
  refine hK.out _ _ ?_
  clear hK K
  refine done_ (by kernel_rfl) ?_
  obtain ⟨W5, hW5⟩ : ∃ W5, ((((w4.setCell ⟨g4, 0, none⟩ (.int .i64 a)).setCell ⟨g5, 0, none⟩ (.int .i64 b)).setCell ⟨g6, 0, none⟩ (.int .i64 (-1))).setCell ⟨g7, 0, none⟩ (.int .i64 (-1))) = W5 := ⟨_, rfl⟩
  rw [hW5]
  have hl4 : W1.drew.heap.size ≤ g4 := hF1.out.l4
  have hl5 : W1.drew.heap.size ≤ g5 := hF1.out.l5
  have hl6 : W1.drew.heap.size ≤ g6 := hF1.out.l6
  have hl7 : W1.drew.heap.size ≤ g7 := hF1.out.l7
  have hs1 := HS1.out
  have hd0 : W1.drew.heap.size = W1.heap.size := rfl
  have HB5 : Aside0 (Below w.heap.size w W5) := ⟨by
    rw [← hW5]
    have h4 : Below w.heap.size w w4 := below_then (HB1.out.drew) (by omega) hF1.out.below
    exact below_set (below_set (below_set (below_set h4 (by omega)) (by omega)) (by omega)) (by omega)⟩
  have HY4 : Aside0 (W5.heap[g4]? = some (.cells #[.int .i64 a] 3 (0, 0))) := ⟨by
    rw [← hW5]
    exact blk_far (blk_far (blk_far (blk_put hF1.out.x4 0 _ rfl) hn45 _) hn46 _) hn47 _⟩
  have HY5 : Aside0 (W5.heap[g5]? = some (.cells #[.int .i64 b] 3 (0, 0))) := ⟨by
    rw [← hW5]
    exact blk_far (blk_far (blk_put (blk_far hF1.out.x5 hn54 _) 0 _ rfl) hn56 _) hn57 _⟩
  have HY6 : Aside0 (W5.heap[g6]? = some (.cells #[.int .i64 (-1)] 3 (0, 0))) := ⟨by
    rw [← hW5]
    exact blk_far (blk_put (blk_far (blk_far hF1.out.x6 hn64 _) hn65 _) 0 _ rfl) hn67 _⟩
  have HY7 : Aside0 (W5.heap[g7]? = some (.cells #[.int .i64 (-1)] 3 (0, 0))) := ⟨by
    rw [← hW5]
    exact blk_put (blk_far (blk_far (blk_far hF1.out.x7 hn74 _) hn75 _) hn76 _) 0 _ rfl⟩
  have HM5 : Aside0 (W5.heap[w.heap.size]? = some (.cells #[.int .i64 a, .int .i64 b, .slice A xs.length c] 24 (0, 0))) := ⟨by
    rw [← hW5]
    have h4 := blk_below (blk_drew HM1.out) hF1.out.below
    exact blk_far (p := ⟨g7, 0, none⟩) (blk_far (p := ⟨g6, 0, none⟩) (blk_far (p := ⟨g5, 0, none⟩) (blk_far (p := ⟨g4, 0, none⟩) h4 (by show w.heap.size ≠ g4; omega) _) (by show w.heap.size ≠ g5; omega) _) (by show w.heap.size ≠ g6; omega) _) (by show w.heap.size ≠ g7; omega) _⟩
  have HX5 : Aside0 (W5.heap[w.heap.size + 1]? = some (.cells #[.int .i64 0, .int .i64 0, .int .i64 0, .int .i64 0] 26 (0, 0))) := ⟨by
    rw [← hW5]
    have h4 := blk_below (blk_drew HX1.out) hF1.out.below
    exact blk_far (p := ⟨g7, 0, none⟩) (blk_far (p := ⟨g6, 0, none⟩) (blk_far (p := ⟨g5, 0, none⟩) (blk_far (p := ⟨g4, 0, none⟩) h4 (by show w.heap.size + 1 ≠ g4; omega) _) (by show w.heap.size + 1 ≠ g5; omega) _) (by show w.heap.size + 1 ≠ g6; omega) _) (by show w.heap.size + 1 ≠ g7; omega) _⟩
  have hg4 : w.heap.size + 2 ≤ g4 := by omega
  have hg5 : w.heap.size + 2 ≤ g5 := by omega
  have hg6 : w.heap.size + 2 ≤ g6 := by omega
  have hg7 : w.heap.size + 2 ≤ g7 := by omega
  have N45 : Aside0 (g4 ≠ g5) := ⟨hF1.out.n45⟩
  have N46 : Aside0 (g4 ≠ g6) := ⟨hF1.out.n46⟩
  have N47 : Aside0 (g4 ≠ g7) := ⟨hF1.out.n47⟩
  have N56 : Aside0 (g5 ≠ g6) := ⟨hF1.out.n56⟩
  have N57 : Aside0 (g5 ≠ g7) := ⟨hF1.out.n57⟩
  have N67 : Aside0 (g6 ≠ g7) := ⟨hF1.out.n67⟩
  clear hW5 hF1 hHeld hcx4 hcx5 hcx6 hcx7 hfx4 hfx5 hfx6 hfx7 hn45 hn46 hn47 hn56 hn57 hn67 hn54 hn64 hn74 hn65 hn75 hn76 HB1 HM1 HX1 HS1 hcm0 hcm1 hl4 hl5 hl6 hl7 hs1 hd0
  have hm0 : W5.cell? ⟨w.heap.size, 0, none⟩ = some (.int .i64 a) := (blk_cell HM5.out 0).trans rfl
  have hm1 : W5.cell? ⟨w.heap.size, 1, none⟩ = some (.int .i64 b) := (blk_cell HM5.out 1).trans rfl
  have hm2 : W5.cell? ⟨w.heap.size, 2, none⟩ = some (.slice A xs.length c) := (blk_cell HM5.out 2).trans rfl
  go_wp2_with (go_at_call 19; refine (pixels_calls e0 a b A c xs.length _ (fun w1 hw1 => HC.out w1 (below_then HB5.out HB5.out.size hw1))).mono ?_; rintro e W6 ⟨Bv, Bm, rfl, hb6, hbv, hbm, hv6, hm6⟩; have HB6 := Aside0.mk hb6; have HV6 := Aside0.mk hv6; have HM6 := Aside0.mk hm6; clear hb6 hv6 hm6)
  refine (wpIn_wide (n := 5)).1 ?_
  have hs4 := blk_lt HY4.out
  have hs5 := blk_lt HY5.out
  have hs6 := blk_lt HY6.out
  have hs7 := blk_lt HY7.out
  have hsx := blk_lt HX5.out
  have hsv := blk_lt HV6.out
  have hsm := blk_lt HM6.out
  have hB6 := HB6.out.size
  have hB06 : Below w.heap.size w W6 := below_then HB5.out HB5.out.size HB6.out
  refine wpIn_rangeFunc_ownH rfl (by decide) (gf := 49) (lb := #[.pointer (some ⟨Bv, 0, none⟩), .pointer (some ⟨Bm, 0, none⟩)]) rfl trivial (enters_of Try.func49 (by kernel_rfl) rfl)
    (pixels_stops 4 Bv Bm (e0 == 0) a b A c xs HA.out hlen w HC2.out W6 hB06 HV6.out HM6.out) PK.trans (pk_putObj hB06.size hsv hsm) (Below.refl _ _) (fun _ => rfl)
    (fun pre W => (W.heap[g4]? = some (.cells #[.int .i64 (pre.foldl bstep (a, b, -1, -1)).1] 3 (0, 0)) ∧ W.heap[g5]? = some (.cells #[.int .i64 (pre.foldl bstep (a, b, -1, -1)).2.1] 3 (0, 0)) ∧ W.heap[g6]? = some (.cells #[.int .i64 (pre.foldl bstep (a, b, -1, -1)).2.2.1] 3 (0, 0)) ∧ W.heap[g7]? = some (.cells #[.int .i64 (pre.foldl bstep (a, b, -1, -1)).2.2.2] 3 (0, 0)) ∧ W.heap[w.heap.size + 1]? = some (.cells #[.int .i64 0, .int .i64 0, .int .i64 0, .int .i64 0] 26 (0, 0))) ∧ (Below w.heap.size w W ∧ W6.heap.size ≤ W.heap.size))
    (fun _ _ _ => False)
    ?hI (fun _ _ _ _ _ hs _ _ => hs) ?h0
    (fun x a' W => ∃ Bx, W6.heap.size ≤ Bx ∧ W.heap[Bx]? = some (.cells #[.int .i64 x.1, .int .i64 x.2] 43 (0, 0)) ∧ a' = { tmps := #[.agg #[.int .i64 a, .int .i64 b, .slice A xs.length c], .pointer (some ⟨w.heap.size, 0, none⟩), .pointer (some ⟨w.heap.size + 1, 0, none⟩), .bool false, .pointer (some ⟨g4, 0, none⟩), .pointer (some ⟨g5, 0, none⟩), .pointer (some ⟨g6, 0, none⟩), .pointer (some ⟨g7, 0, none⟩), .pointer (some ⟨Bx, 0, none⟩), .pointer (some ⟨w.heap.size, 0, none⟩), .int .i64 a, .pointer (some ⟨w.heap.size, 1, none⟩), .int .i64 b, .agg #[.int .i64 a, .int .i64 b, .slice A xs.length c], .func (.func 49) #[] #[.pointer (some ⟨Bv, 0, none⟩), .pointer (some ⟨Bm, 0, none⟩)], .agg #[.int .i64 x.1, .int .i64 x.2], undef, undef, undef, undef, undef, undef, undef, undef, undef, undef, undef, undef, undef, undef, undef, undef, undef, undef, undef, undef, undef, undef, undef, undef, undef, undef, undef, undef, undef, undef], defers := [] })
    (fun x a' _ X Y row hs hg hr => by obtain ⟨Bx, h1, h2, h3⟩ := hs; exact ⟨Bx, h1, cells_own Bx 43 (fun (_ : Unit) => #[Value.int .i64 x.1, Value.int .i64 x.2]) () X Y row h2 hg (fun r e => (hr r e).2), h3⟩)
    ?assign ?body ?done ?stop
  case hI =>
    refine OwnFrom.and (OwnFrom.and (Own.from (cells_own _ _ _) _) (OwnFrom.and (Own.from (cells_own _ _ _) _) (OwnFrom.and (Own.from (cells_own _ _ _) _) (OwnFrom.and (Own.from (cells_own _ _ _) _) (Own.from (cells_own _ _ _) _))))) (OwnFrom.and (ownFrom_below (Nat.le_refl _) hB06.size) ?_)
    exact fun s X Y row hs hg hr => Nat.le_trans hs hg.size
  case h0 =>
    exact ⟨⟨blk_below HY4.out HB6.out, blk_below HY5.out HB6.out, blk_below HY6.out HB6.out, blk_below HY7.out HB6.out, blk_below HX5.out HB6.out⟩, hB06, Nat.le_refl _⟩
  case assign =>
    rintro l pre x W K ⟨⟨y4, y5, y6, y7, yx⟩, hB1, hle⟩ hK
    have K1 := Aside0.mk hK
    have Y4 := Aside0.mk y4
    have Y5 := Aside0.mk y5
    have Y6 := Aside0.mk y6
    have Y7 := Aside0.mk y7
    have YX := Aside0.mk yx
    have HB1 := Aside0.mk hB1
    clear hK y4 y5 y6 y7 yx hB1
    gi_wp2
    refine K1.out _ _ ((KeepsOthers.alloc _ _).from _) ⟨(Below.refl _ W).alloc HB1.out.size _, ?_, ?_⟩ ⟨⟨blk_alloc Y4.out _, blk_alloc Y5.out _, blk_alloc Y6.out _, blk_alloc Y7.out _, blk_alloc YX.out _⟩, HB1.out.alloc HB1.out.size _, by simp; omega⟩ ⟨W.heap.size, hle, blk_new _ _, rfl⟩
    · exact Below.heap_alloc W _ Bv (by omega)
    · exact Below.heap_alloc W _ Bm (by omega)
  case body =>
    rintro l pre x a' W hl ⟨r, hr⟩ ⟨⟨y4, y5, y6, y7, yx⟩, hB1, hle⟩ ⟨Bx, hBx, bX, rfl⟩ hlt
    have hcx4 := (blk_cell y4 0).trans rfl
    have hcx5 := (blk_cell y5 0).trans rfl
    have hcx6 := (blk_cell y6 0).trans rfl
    have hcx7 := (blk_cell y7 0).trans rfl
    have hfx4 := blk_frozen y4 0
    have hfx5 := blk_frozen y5 0
    have hfx6 := blk_frozen y6 0
    have hfx7 := blk_frozen y7 0
    have hcb0 := (blk_cell bX 0).trans rfl
    have hcb1 := (blk_cell bX 1).trans rfl
    obtain ⟨s1, hs1⟩ : ∃ s, s = (pre.foldl bstep (a, b, -1, -1)).1 := ⟨_, rfl⟩
    obtain ⟨s2, hs2⟩ : ∃ s, s = (pre.foldl bstep (a, b, -1, -1)).2.1 := ⟨_, rfl⟩
    obtain ⟨s3, hs3⟩ : ∃ s, s = (pre.foldl bstep (a, b, -1, -1)).2.2.1 := ⟨_, rfl⟩
    obtain ⟨s4, hs4'⟩ : ∃ s, s = (pre.foldl bstep (a, b, -1, -1)).2.2.2 := ⟨_, rfl⟩
    rw [← hs1] at y4
    rw [← hs2] at y5
    rw [← hs3] at y6
    rw [← hs4'] at y7
    replace hcx4 : W.cell? ⟨g4, 0, none⟩ = some (.int .i64 s1) := (blk_cell y4 0).trans rfl
    replace hcx5 : W.cell? ⟨g5, 0, none⟩ = some (.int .i64 s2) := (blk_cell y5 0).trans rfl
    replace hcx6 : W.cell? ⟨g6, 0, none⟩ = some (.int .i64 s3) := (blk_cell y6 0).trans rfl
    replace hcx7 : W.cell? ⟨g7, 0, none⟩ = some (.int .i64 s4) := (blk_cell y7 0).trans rfl
    replace hcb0 : W.cell? ⟨Bx, 0, none⟩ = some (.int .i64 x.1) := (blk_cell bX 0).trans rfl
    replace hcb1 : W.cell? ⟨Bx, 1, none⟩ = some (.int .i64 x.2) := (blk_cell bX 1).trans rfl
    have Y4 := Aside0.mk y4
    have Y5 := Aside0.mk y5
    have Y6 := Aside0.mk y6
    have Y7 := Aside0.mk y7
    have YX := Aside0.mk yx
    have BX := Aside0.mk bX
    have HB1 := Aside0.mk hB1
    have E1 := Aside0.mk hs1
    have E2 := Aside0.mk hs2
    have E3 := Aside0.mk hs3
    have E4 := Aside0.mk hs4'
    have hn1 : g4 ≠ Bx := by omega
    have hn2 : g5 ≠ Bx := by omega
    have hn3 : g6 ≠ Bx := by omega
    have hn4 : g7 ≠ Bx := by omega
    have hn5 : Bx ≠ g4 := by omega
    have hn6 : Bx ≠ g5 := by omega
    have hn7 : Bx ≠ g6 := by omega
    have hn8 : Bx ≠ g7 := by omega
    have hn9 := N46.out
    have hn10 := N46.out.symm
    clear y4 y5 y6 y7 yx bX hB1 hs1 hs2 hs3 hs4' HC HC2 HR HA hr hu24 hu26 hm0 hm1 hm2 hHeld
    gi_wp2
    refine startIn_ (m := 10) l 3 (by kernel_rfl) (fun ⟨_, _, h⟩ => h) (S := fun w' => w'.cell? ⟨Bx, 0, none⟩ = some (.int .i64 x.1) ∧ w'.cell? ⟨g6, 0, none⟩ = some (.int .i64 s3)) (ds := [9]) #[false, false, false, false, false, false, false, false, false, false] (by kernel_rfl) rfl rfl ⟨hcb0, hcx6⟩ (fun hHeld => ?_)
    refine pure_ (i := 1) (N := some 17) (v := ?_) (a' := ?_) #[false, true, false, false, false, false, false, false, false, false] rfl rfl (by kernel_rfl) (fun _ _ _ h => h) (Or.inl ⟨by rfl, ?_⟩) ?_ ?_
    rotate_left
    · intro w'
      go_simp
      with_reducible rfl
    rotate_left
    · simp only [Act.put, List.setIfInBounds_toArray, List.set_cons_zero, List.set_cons_succ, i64_w, i32_w]
      rfl
    refine pure_ (i := 5) (N := some 21) (v := ?_) (a' := ?_) #[false, true, false, false, false, true, false, false, false, false] rfl rfl (by kernel_rfl) (fun _ _ _ h => h) (Or.inl ⟨by rfl, ?_⟩) ?_ ?_
    rotate_left
    · intro w'
      go_simp
      with_reducible rfl
    rotate_left
    · simp only [Act.put, List.setIfInBounds_toArray, List.set_cons_zero, List.set_cons_succ, i64_w, i32_w]
      rfl
    refine take_ (i := 2) (N := some 18) (v := ?_) (a' := ?_) #[false, true, true, false, false, true, false, false, false, false] rfl rfl (by kernel_rfl) (fun _ _ _ h => h) (Or.inl ⟨by rfl, ?_⟩) hHeld ?_ ?_
    rotate_left
    · rintro w' ⟨s0, s1⟩
      go_simp
      with_reducible rfl
    rotate_left
    · simp only [Act.put, List.setIfInBounds_toArray, List.set_cons_zero, List.set_cons_succ, i64_w, i32_w]
      rfl
    refine take_ (i := 4) (N := some 20) (v := ?_) (a' := ?_) #[false, true, true, false, true, true, false, false, false, false] rfl rfl (by kernel_rfl) (fun _ _ _ h => h) (Or.inl ⟨by rfl, ?_⟩) hHeld ?_ ?_
    rotate_left
    · rintro w' ⟨s0, s1⟩
      go_simp
      with_reducible rfl
    rotate_left
    · simp only [Act.put, List.setIfInBounds_toArray, List.set_cons_zero, List.set_cons_succ, i64_w, i32_w]
      rfl
    refine take_ (i := 6) (N := some 22) (v := ?_) (a' := ?_) #[false, true, true, false, true, true, true, false, false, false] rfl rfl (by kernel_rfl) (fun _ _ _ h => h) (Or.inl ⟨by rfl, ?_⟩) hHeld ?_ ?_
    rotate_left
    · rintro w' ⟨s0, s1⟩
      go_simp
      with_reducible rfl
    rotate_left
    · simp only [Act.put, List.setIfInBounds_toArray, List.set_cons_zero, List.set_cons_succ, i64_w, i32_w]
      rfl
    refine pure_ (i := 7) (N := some 23) (v := ?_) (a' := ?_) #[false, true, true, false, true, true, true, true, false, false] rfl rfl (by kernel_rfl) (fun _ _ _ h => h) (Or.inl ⟨by rfl, ?_⟩) ?_ ?_
    rotate_left
    · intro w'
      go_simp
      with_reducible rfl
    rotate_left
    · simp only [Act.put, List.setIfInBounds_toArray, List.set_cons_zero, List.set_cons_succ, i64_w, i32_w]
      rfl
    refine one_ (i := 0) (N := some 16) #[true, true, true, false, true, true, true, true, false, false] rfl rfl (by kernel_rfl) (by decide) (fun K hK => ?_)
    refine value_ (w1 := ?_) (v := ?_) (by rfl) rfl ?_ ?_
    rotate_left 2
    · go_simp
      constructor
      · rfl
      · rfl
    refine hK.out _ _ ⟨hHeld.1, hHeld.2⟩ (fun hHeld => ?_)
    clear hK K
    refine norm_ (a' := ?_) ?_ ?_
    rotate_left
    · show Act.put _ (some 16) _ = _
      simp only [Act.put, List.setIfInBounds_toArray, List.set_cons_zero, List.set_cons_succ, i64_w, i32_w]
      rfl
    refine pure_ (i := 3) (N := some 19) (v := ?_) (a' := ?_) #[true, true, true, true, true, true, true, true, false, false] rfl rfl (by kernel_rfl) (fun _ _ _ h => h) (Or.inl ⟨by rfl, ?_⟩) ?_ ?_
    rotate_left
    · intro w'
      go_simp
      with_reducible rfl
    rotate_left
    · simp only [Act.put, List.setIfInBounds_toArray, List.set_cons_zero, List.set_cons_succ, i64_w, i32_w]
      rfl
    refine one_ (i := 8) (N := none) #[true, true, true, true, true, true, true, true, true, false] rfl rfl (by kernel_rfl) (by decide) (fun K hK => ?_)
    refine skip_ (w1 := ?_) (by rfl) rfl ?_ ?_
    rotate_left
    · go_simp
      rfl
    refine hK.out _ _ ⟨((cell_far (p := ⟨g4, 0, none⟩) (show Bx ≠ g4 by omega) _).trans hHeld.1), ((cell_far (p := ⟨g4, 0, none⟩) hn10 _).trans hHeld.2)⟩ (fun hHeld => ?_)
    clear hK K
    refine last_ (i := 9) (N := none) #[true, true, true, true, true, true, true, true, true, true] rfl rfl (by kernel_rfl) (by decide) (fun K hK => ?_)
    refine skip_ (w1 := ?_) (by rfl) rfl ?_ ?_
    rotate_left
    · go_simp
      rfl
    refine hK.out _ _ ?_
    clear hK K
    refine done_ (by kernel_rfl) ?_
    obtain ⟨m1, hm1⟩ : ∃ m_ : Int, (if x.1 < s1 then x.1 else s1) = m_ := ⟨_, rfl⟩
    rw [hm1]
    have HM1 : Aside0 (mn s1 x.1 = m1) := ⟨hm1⟩
    clear hm1
    obtain ⟨m3, hm3⟩ : ∃ m_ : Int, (if s3 < x.1 then x.1 else s3) = m_ := ⟨_, rfl⟩
    rw [hm3]
    have HM3 : Aside0 (mx s3 x.1 = m3) := ⟨hm3⟩
    clear hm3
    obtain ⟨W2, hW2⟩ : ∃ W2, ((W.setCell ⟨g4, 0, none⟩ (.int .i64 m1)).setCell ⟨g6, 0, none⟩ (.int .i64 m3)).drew = W2 := ⟨_, rfl⟩
    rw [hW2]
    have Z4 : Aside0 (W2.heap[g4]? = some (.cells #[.int .i64 m1] 3 (0, 0))) := ⟨by rw [← hW2]; exact blk_drew (blk_far (p := ⟨g6, 0, none⟩) (blk_put Y4.out 0 _ rfl) hn9 _)⟩
    have Z6 : Aside0 (W2.heap[g6]? = some (.cells #[.int .i64 m3] 3 (0, 0))) := ⟨by rw [← hW2]; exact blk_drew (blk_put (blk_far (p := ⟨g4, 0, none⟩) Y6.out hn10 _) 0 _ rfl)⟩
    have far2 : ∀ {k : Nat} {t : TypeId} {cs : Array Value}, k ≠ g4 → k ≠ g6 → W.heap[k]? = some (.cells cs t (0, 0)) → W2.heap[k]? = some (.cells cs t (0, 0)) := fun h1 h2 h => by
      rw [← hW2]
      exact blk_drew (blk_far (p := ⟨g6, 0, none⟩) (blk_far (p := ⟨g4, 0, none⟩) h h1 _) h2 _)
    have Z5 : Aside0 (W2.heap[g5]? = some (.cells #[.int .i64 s2] 3 (0, 0))) := ⟨far2 N45.out.symm N56.out Y5.out⟩
    have Z7 : Aside0 (W2.heap[g7]? = some (.cells #[.int .i64 s4] 3 (0, 0))) := ⟨far2 N47.out.symm N67.out.symm Y7.out⟩
    have ZX : Aside0 (W2.heap[w.heap.size + 1]? = some (.cells #[.int .i64 0, .int .i64 0, .int .i64 0, .int .i64 0] 26 (0, 0))) := ⟨far2 (by omega) (by omega) YX.out⟩
    have ZB : Aside0 (W2.heap[Bx]? = some (.cells #[.int .i64 x.1, .int .i64 x.2] 43 (0, 0))) := ⟨far2 hn5 hn7 BX.out⟩
    have ZK : Aside0 (PK w.heap.size Bv Bm W W2 ∧ KeepsOthers W W2) := ⟨by
      rw [← hW2]
      refine ⟨⟨(((Below.refl _ W).setCell (p := ⟨g4, 0, none⟩) (by show _ ≤ g4; omega) _).setCell (p := ⟨g6, 0, none⟩) (by show _ ≤ g6; omega) _).drew, ?_, ?_⟩, ((KeepsOthers.setCell _ _ _).trans (KeepsOthers.setCell _ _ _)).trans (KeepsOthers.drew _)⟩
      · exact (Below.heap_setCell _ ⟨g6, 0, none⟩ _ _ (show Bv ≠ g6 by omega)).trans (Below.heap_setCell _ ⟨g4, 0, none⟩ _ _ (show Bv ≠ g4 by omega))
      · exact (Below.heap_setCell _ ⟨g6, 0, none⟩ _ _ (show Bm ≠ g6 by omega)).trans (Below.heap_setCell _ ⟨g4, 0, none⟩ _ _ (show Bm ≠ g4 by omega))⟩
    have ZS : W.heap.size ≤ W2.heap.size := by rw [← hW2]; simp
    clear hW2 far2 hcx4 hcx5 hcx6 hcx7 hfx4 hfx5 hfx6 hfx7 hcb0 hcb1 hHeld
    have hcy5 : W2.cell? ⟨g5, 0, none⟩ = some (.int .i64 s2) := (blk_cell Z5.out 0).trans rfl
    have hcy7 : W2.cell? ⟨g7, 0, none⟩ = some (.int .i64 s4) := (blk_cell Z7.out 0).trans rfl
    have hcb1 : W2.cell? ⟨Bx, 1, none⟩ = some (.int .i64 x.2) := (blk_cell ZB.out 1).trans rfl
    have hfy5 := blk_frozen Z5.out 0
    have hfy7 := blk_frozen Z7.out 0
    have hn11 := N57.out
    have hn12 := N57.out.symm
    gi_wp2
    refine startIn_ (m := 10) l 3 (by kernel_rfl) (fun ⟨_, _, h⟩ => h) (S := fun w' => w'.cell? ⟨Bx, 1, none⟩ = some (.int .i64 x.2) ∧ w'.cell? ⟨g7, 0, none⟩ = some (.int .i64 s4)) (ds := [9]) #[false, false, false, false, false, false, false, false, false, false] (by kernel_rfl) rfl rfl ⟨hcb1, hcy7⟩ (fun hHeld => ?_)
    refine pure_ (i := 1) (N := some 25) (v := ?_) (a' := ?_) #[false, true, false, false, false, false, false, false, false, false] rfl rfl (by kernel_rfl) (fun _ _ _ h => h) (Or.inl ⟨by rfl, ?_⟩) ?_ ?_
    rotate_left
    · intro w'
      go_simp
      with_reducible rfl
    rotate_left
    · simp only [Act.put, List.setIfInBounds_toArray, List.set_cons_zero, List.set_cons_succ, i64_w, i32_w]
      rfl
    refine pure_ (i := 5) (N := some 29) (v := ?_) (a' := ?_) #[false, true, false, false, false, true, false, false, false, false] rfl rfl (by kernel_rfl) (fun _ _ _ h => h) (Or.inl ⟨by rfl, ?_⟩) ?_ ?_
    rotate_left
    · intro w'
      go_simp
      with_reducible rfl
    rotate_left
    · simp only [Act.put, List.setIfInBounds_toArray, List.set_cons_zero, List.set_cons_succ, i64_w, i32_w]
      rfl
    refine take_ (i := 2) (N := some 26) (v := ?_) (a' := ?_) #[false, true, true, false, false, true, false, false, false, false] rfl rfl (by kernel_rfl) (fun _ _ _ h => h) (Or.inl ⟨by rfl, ?_⟩) hHeld ?_ ?_
    rotate_left
    · rintro w' ⟨s0, s1⟩
      go_simp
      with_reducible rfl
    rotate_left
    · simp only [Act.put, List.setIfInBounds_toArray, List.set_cons_zero, List.set_cons_succ, i64_w, i32_w]
      rfl
    refine take_ (i := 4) (N := some 28) (v := ?_) (a' := ?_) #[false, true, true, false, true, true, false, false, false, false] rfl rfl (by kernel_rfl) (fun _ _ _ h => h) (Or.inl ⟨by rfl, ?_⟩) hHeld ?_ ?_
    rotate_left
    · rintro w' ⟨s0, s1⟩
      go_simp
      with_reducible rfl
    rotate_left
    · simp only [Act.put, List.setIfInBounds_toArray, List.set_cons_zero, List.set_cons_succ, i64_w, i32_w]
      rfl
    refine take_ (i := 6) (N := some 30) (v := ?_) (a' := ?_) #[false, true, true, false, true, true, true, false, false, false] rfl rfl (by kernel_rfl) (fun _ _ _ h => h) (Or.inl ⟨by rfl, ?_⟩) hHeld ?_ ?_
    rotate_left
    · rintro w' ⟨s0, s1⟩
      go_simp
      with_reducible rfl
    rotate_left
    · simp only [Act.put, List.setIfInBounds_toArray, List.set_cons_zero, List.set_cons_succ, i64_w, i32_w]
      rfl
    refine pure_ (i := 7) (N := some 31) (v := ?_) (a' := ?_) #[false, true, true, false, true, true, true, true, false, false] rfl rfl (by kernel_rfl) (fun _ _ _ h => h) (Or.inl ⟨by rfl, ?_⟩) ?_ ?_
    rotate_left
    · intro w'
      go_simp
      with_reducible rfl
    rotate_left
    · simp only [Act.put, List.setIfInBounds_toArray, List.set_cons_zero, List.set_cons_succ, i64_w, i32_w]
      rfl
    refine one_ (i := 0) (N := some 24) #[true, true, true, false, true, true, true, true, false, false] rfl rfl (by kernel_rfl) (by decide) (fun K hK => ?_)
    refine value_ (w1 := ?_) (v := ?_) (by rfl) rfl ?_ ?_
    rotate_left 2
    · go_simp
      constructor
      · rfl
      · rfl
    refine hK.out _ _ ⟨hHeld.1, hHeld.2⟩ (fun hHeld => ?_)
    clear hK K
    refine norm_ (a' := ?_) ?_ ?_
    rotate_left
    · show Act.put _ (some 24) _ = _
      simp only [Act.put, List.setIfInBounds_toArray, List.set_cons_zero, List.set_cons_succ, i64_w, i32_w]
      rfl
    refine pure_ (i := 3) (N := some 27) (v := ?_) (a' := ?_) #[true, true, true, true, true, true, true, true, false, false] rfl rfl (by kernel_rfl) (fun _ _ _ h => h) (Or.inl ⟨by rfl, ?_⟩) ?_ ?_
    rotate_left
    · intro w'
      go_simp
      with_reducible rfl
    rotate_left
    · simp only [Act.put, List.setIfInBounds_toArray, List.set_cons_zero, List.set_cons_succ, i64_w, i32_w]
      rfl
    refine one_ (i := 8) (N := none) #[true, true, true, true, true, true, true, true, true, false] rfl rfl (by kernel_rfl) (by decide) (fun K hK => ?_)
    refine skip_ (w1 := ?_) (by rfl) rfl ?_ ?_
    rotate_left
    · go_simp
      rfl
    refine hK.out _ _ ⟨((cell_far (p := ⟨g5, 0, none⟩) (show Bx ≠ g5 by omega) _).trans hHeld.1), ((cell_far (p := ⟨g5, 0, none⟩) hn12 _).trans hHeld.2)⟩ (fun hHeld => ?_)
    clear hK K
    refine last_ (i := 9) (N := none) #[true, true, true, true, true, true, true, true, true, true] rfl rfl (by kernel_rfl) (by decide) (fun K hK => ?_)
    refine skip_ (w1 := ?_) (by rfl) rfl ?_ ?_
    rotate_left
    · go_simp
      rfl
    refine hK.out _ _ ?_
    clear hK K
    refine done_ (by kernel_rfl) ?_
    obtain ⟨m2, hm2⟩ : ∃ m_ : Int, (if x.2 < s2 then x.2 else s2) = m_ := ⟨_, rfl⟩
    rw [hm2]
    have HM2 : Aside0 (mn s2 x.2 = m2) := ⟨hm2⟩
    clear hm2
    obtain ⟨m4, hm4⟩ : ∃ m_ : Int, (if s4 < x.2 then x.2 else s4) = m_ := ⟨_, rfl⟩
    rw [hm4]
    have HM4 : Aside0 (mx s4 x.2 = m4) := ⟨hm4⟩
    clear hm4
    obtain ⟨W3, hW3⟩ : ∃ W3, ((W2.setCell ⟨g5, 0, none⟩ (.int .i64 m2)).setCell ⟨g7, 0, none⟩ (.int .i64 m4)).drew = W3 := ⟨_, rfl⟩
    rw [hW3]
    have far3 : ∀ {k : Nat} {t : TypeId} {cs : Array Value}, k ≠ g5 → k ≠ g7 → W2.heap[k]? = some (.cells cs t (0, 0)) → W3.heap[k]? = some (.cells cs t (0, 0)) := fun h1 h2 h => by
      rw [← hW3]
      exact blk_drew (blk_far (p := ⟨g7, 0, none⟩) (blk_far (p := ⟨g5, 0, none⟩) h h1 _) h2 _)
    have hK3 : PK w.heap.size Bv Bm W2 W3 ∧ KeepsOthers W2 W3 := by
      rw [← hW3]
      refine ⟨⟨(((Below.refl _ W2).setCell (p := ⟨g5, 0, none⟩) (by show _ ≤ g5; omega) _).setCell (p := ⟨g7, 0, none⟩) (by show _ ≤ g7; omega) _).drew, ?_, ?_⟩, ((KeepsOthers.setCell _ _ _).trans (KeepsOthers.setCell _ _ _)).trans (KeepsOthers.drew _)⟩
      · exact (Below.heap_setCell _ ⟨g7, 0, none⟩ _ _ (show Bv ≠ g7 by omega)).trans (Below.heap_setCell _ ⟨g5, 0, none⟩ _ _ (show Bv ≠ g5 by omega))
      · exact (Below.heap_setCell _ ⟨g7, 0, none⟩ _ _ (show Bm ≠ g7 by omega)).trans (Below.heap_setCell _ ⟨g5, 0, none⟩ _ _ (show Bm ≠ g5 by omega))
    have hs3 : W2.heap.size ≤ W3.heap.size := by rw [← hW3]; simp
    have h5 : W3.heap[g5]? = some (.cells #[.int .i64 m2] 3 (0, 0)) := by rw [← hW3]; exact blk_drew (blk_far (p := ⟨g7, 0, none⟩) (blk_put Z5.out 0 _ rfl) hn11 _)
    have h7 : W3.heap[g7]? = some (.cells #[.int .i64 m4] 3 (0, 0)) := by rw [← hW3]; exact blk_drew (blk_put (blk_far (p := ⟨g5, 0, none⟩) Z7.out hn12 _) 0 _ rfl)
    have hfold : (pre ++ [x]).foldl bstep (a, b, -1, -1) = (m1, m2, m3, m4) := by
      rw [List.foldl_append, ← HM1.out, ← HM2.out, ← HM3.out, ← HM4.out, E1.out, E2.out, E3.out, E4.out]
      rfl
    gi_wp2
    refine ⟨(ZK.out.2.trans hK3.2).from _, ZK.out.1.trans hK3.1, ?_, HB1.out.trans (ZK.out.1.trans hK3.1).1, by omega⟩
    rw [hfold]
    exact ⟨far3 N45.out N47.out Z4.out, h5, far3 N56.out.symm N67.out Z6.out, h7, far3 (by omega) (by omega) ZX.out⟩
  case done =>
    rintro D ys W hD rfl ⟨⟨y4, y5, y6, y7, yx⟩, hB1, hle⟩ hK
    have hr := HR.out
    generalize hys : (if (e0 == 0) = true then dots a xs xs.length else []) = ys at hr y4 y5 y6 y7
    clear hys
    obtain ⟨s1, s2, s3, s4, hs⟩ : ∃ s1 s2 s3 s4, ys.foldl bstep (a, b, -1, -1) = (s1, s2, s3, s4) := ⟨_, _, _, _, rfl⟩
    rw [hs] at hr y4 y5 y6 y7
    clear hs
    simp only [] at y4 y5 y6 y7
    have hcx4 : W.cell? ⟨g4, 0, none⟩ = some (.int .i64 s1) := (blk_cell y4 0).trans rfl
    have hcx5 : W.cell? ⟨g5, 0, none⟩ = some (.int .i64 s2) := (blk_cell y5 0).trans rfl
    have hcx6 : W.cell? ⟨g6, 0, none⟩ = some (.int .i64 s3) := (blk_cell y6 0).trans rfl
    have hcx7 : W.cell? ⟨g7, 0, none⟩ = some (.int .i64 s4) := (blk_cell y7 0).trans rfl
    have hfx := blk_frozen yx
    have hcz0 : W.cell? ⟨w.heap.size + 1, 0, none⟩ = some (.int .i64 0) := (blk_cell yx 0).trans rfl
    have hcz1 : W.cell? ⟨w.heap.size + 1, 1, none⟩ = some (.int .i64 0) := (blk_cell yx 1).trans rfl
    have hcz2 : W.cell? ⟨w.heap.size + 1, 2, none⟩ = some (.int .i64 0) := (blk_cell yx 2).trans rfl
    have hcz3 : W.cell? ⟨w.heap.size + 1, 3, none⟩ = some (.int .i64 0) := (blk_cell yx 3).trans rfl
    have hfz0 := blk_frozen yx 0
    have hfz1 := blk_frozen yx 1
    have hfz2 := blk_frozen yx 2
    have hfz3 := blk_frozen yx 3
    have HK := Aside0.mk hK
    have HR1 := Aside0.mk hr
    have YX := Aside0.mk yx
    have HB1 := Aside0.mk hB1
    clear HC HC2 HR HA hK hr yx hB1 y4 y5 y6 y7 hm0 hm1 hm2 hHeld hfx
    by_cases hneg : s3 < 0
    · go_wp2
      obtain ⟨W3, hW3⟩ : ∃ W3, ((((W.setCell ⟨w.heap.size + 1, 0, none⟩ (.int .i64 0)).setCell ⟨w.heap.size + 1, 1, none⟩ (.int .i64 0)).setCell ⟨w.heap.size + 1, 2, none⟩ (.int .i64 0)).setCell ⟨w.heap.size + 1, 3, none⟩ (.int .i64 0)) = W3 := ⟨_, rfl⟩
      rw [hW3]
      have hB3 : Below w.heap.size w W3 := by rw [← hW3]; exact below_set (below_set (below_set (below_set HB1.out (by omega)) (by omega)) (by omega)) (by omega)
      have hX3 : W3.heap[w.heap.size + 1]? = some (.cells #[.int .i64 0, .int .i64 0, .int .i64 0, .int .i64 0] 26 (0, 0)) := by
        rw [← hW3]
        exact blk_put (blk_put (blk_put (blk_put YX.out 0 _ rfl) 1 _ rfl) 2 _ rfl) 3 _ rfl
      have hK3 : W3.heap[D]? = some (.deferred (some [])) := by
        rw [← hW3]
        exact ((((KeepsOthers.setCell _ _ _).trans (KeepsOthers.setCell _ _ _)).trans (KeepsOthers.setCell _ _ _)).trans (KeepsOthers.setCell _ _ _)).same D _ HK.out rfl
      have hDne : w.heap.size + 1 ≠ D := by omega
      have hrr := HR1.out
      unfold bout at hrr
      rw [if_pos hneg] at hrr
      simp only [Prod.mk.injEq] at hrr
      obtain ⟨rfl, rfl, rfl, rfl, rfl⟩ := hrr
      refine ⟨by simp, .inl ⟨_, _, rfl, run_takeDeferred hK3, ?_⟩⟩
      refine ⟨_, results_ct rfl _ _ (w.heap.size + 1) 26 _ (0, 0) _ rfl ((World.putObj_heap_other hDne).trans hX3) Try.underlying26 rfl (by kernel_rfl), rfl, hB3.trans ?_⟩
      exact belowK_b (w := w) (Nat.le_refl _) W3 D _ _ (by omega) hK3 rfl rfl
    · go_wp2
      obtain ⟨W3, hW3⟩ : ∃ W3, ((((W.setCell ⟨w.heap.size + 1, 0, none⟩ (.int .i64 s1)).setCell ⟨w.heap.size + 1, 1, none⟩ (.int .i64 s2)).setCell ⟨w.heap.size + 1, 2, none⟩ (.int .i64 (wrap64 (wrap64 (s3 - s1) + 1)))).setCell ⟨w.heap.size + 1, 3, none⟩ (.int .i64 (wrap64 (wrap64 (s4 - s2) + 1)))) = W3 := ⟨_, rfl⟩
      rw [hW3]
      have hB3 : Below w.heap.size w W3 := by rw [← hW3]; exact below_set (below_set (below_set (below_set HB1.out (by omega)) (by omega)) (by omega)) (by omega)
      have hX3 : W3.heap[w.heap.size + 1]? = some (.cells #[.int .i64 s1, .int .i64 s2, .int .i64 (wrap64 (wrap64 (s3 - s1) + 1)), .int .i64 (wrap64 (wrap64 (s4 - s2) + 1))] 26 (0, 0)) := by
        rw [← hW3]
        exact blk_put (blk_put (blk_put (blk_put YX.out 0 _ rfl) 1 _ rfl) 2 _ rfl) 3 _ rfl
      have hK3 : W3.heap[D]? = some (.deferred (some [])) := by
        rw [← hW3]
        exact ((((KeepsOthers.setCell _ _ _).trans (KeepsOthers.setCell _ _ _)).trans (KeepsOthers.setCell _ _ _)).trans (KeepsOthers.setCell _ _ _)).same D _ HK.out rfl
      have hDne : w.heap.size + 1 ≠ D := by omega
      have hrr := HR1.out
      unfold bout at hrr
      rw [if_neg (show ¬ s3 < 0 by omega)] at hrr
      simp only [Prod.mk.injEq] at hrr
      obtain ⟨rfl, rfl, rfl, rfl, rfl⟩ := hrr
      refine ⟨by simp, .inl ⟨_, _, rfl, run_takeDeferred hK3, ?_⟩⟩
      refine ⟨_, results_ct rfl _ _ (w.heap.size + 1) 26 _ (0, 0) _ rfl ((World.putObj_heap_other hDne).trans hX3) Try.underlying26 rfl (by kernel_rfl), rfl, hB3.trans ?_⟩
      exact belowK_b (w := w) (Nat.le_refl _) W3 D _ _ (by omega) hK3 rfl rfl
  case stop =>
    rintro D c pre W _ _ h _
    exact h.elim
end Go.Proofs.Ytcmcmoaikabfoaa.XPixels
