import Derived.Test.YtcmcmoaikabfoaaXWords
import Derived.Test.YtcmcmoaikabfoaaWFour
import Derived.Test.YtcmcmoaikabfoaaWMore
import Derived.Test.YtcmcmoaikabfoaaProg
import Derived.RangeFuncNested
import Derived.RangeFuncBound
import Derived.RangeFuncCalls
import Derived.RangeFuncLeaves
import Derived.RangeFuncBox
import Derived.Shelf.Abstract
import Derived.Shelf.RegionOpen
import Derived.WalkKit
import Derived.OwnWalkIn
import Derived.TacticsInMore
import Derived.LoopNIn
import Derived.LoopIn
import Derived.Outline
import Derived.Sort.QuietIn
import Derived.IntWalk
import Derived.Stop.RegionWithIn
import Derived.BigRegionIn
namespace Go.Proofs.Ytcmcmoaikabfoaa.XPixels
set_option linter.unusedVariables false
set_option linter.unusedSimpArgs false
open Go.RowKit Go.Shelf Go.Proofs.YtcmcmoaikabfoaaW.PrintWords Go.Proofs.YtcmcmoaikabfoaaW.PrintLast Go.Proofs.YtcmcmoaikabfoaaW.PrintMore

/-- Pixels: a closure over two variables. -/
theorem pixels_calls (e0 : Int) (a b : Int) (A : Option Addr) (c len : Nat) (w : World)
    (hcheck : ∀ w1 : World, Below w.heap.size w w1 → Calls Try.prog 23 #[.agg #[.int .i64 a, .int .i64 b, .slice A len c]] w1 fun e w' => e = .returned (.int .i64 e0) ∧ Below w1.heap.size w1 w') :
    Calls Try.prog 19 #[.agg #[.int .i64 a, .int .i64 b, .slice A len c]] w fun e w' => ∃ Bv Bm, e = .returned (.func (.func 49) #[] #[.pointer (some ⟨Bv, 0, none⟩), .pointer (some ⟨Bm, 0, none⟩)]) ∧ Below w.heap.size w w' ∧ w.heap.size ≤ Bv ∧ w.heap.size ≤ Bm ∧
      w'.heap[Bv]? = some (.cells #[.bool (e0 == 0)] 4 (0, 0)) ∧ w'.heap[Bm]? = some (.cells #[.int .i64 a, .int .i64 b, .slice A len c] 24 (0, 0)) := by
  have hu24 := Try.underlying24
  go_enter Try.func19, Try.ntmps19
  have HC := Aside0.mk hcheck
  clear hcheck
  go_wp2_with (go_at_call 23; refine (HC.out _ ((Below.refl _ w).alloc (Nat.le_refl _) _)).mono ?_; rintro e w1 ⟨rfl, hb⟩; have HB := Aside0.mk hb; clear hb)
  go_ret
  have h1 : w.heap.size < w1.heap.size := by have := HB.out.size; simp at this; omega
  refine ⟨w1.heap.size, w.heap.size, rfl, ?_, by omega, Nat.le_refl _, World.alloc_heap_new _ _, ?_⟩
  · exact (((Below.refl _ w).alloc (Nat.le_refl _) _).trans (HB.out.mono (by simp))).alloc (by omega) _
  · exact blk_alloc (blk_below (blk_new _ _) HB.out) _

/-- What the iterator's own variables and what lay below n₀ keep in a round. -/
def PK (n₀ Bv Bm : Nat) (W W' : World) : Prop := Below n₀ W W' ∧ W'.heap[Bv]? = W.heap[Bv]? ∧ W'.heap[Bm]? = W.heap[Bm]?
theorem PK.refl (n₀ Bv Bm : Nat) (W : World) : PK n₀ Bv Bm W W := ⟨Below.refl _ _, rfl, rfl⟩
theorem PK.trans {n₀ Bv Bm : Nat} {A B C : World} (h : PK n₀ Bv Bm A B) (k : PK n₀ Bv Bm B C) : PK n₀ Bv Bm A C := ⟨h.1.trans k.1, k.2.1.trans h.2.1, k.2.2.trans h.2.2⟩

theorem PK.drew (n₀ Bv Bm : Nat) (W : World) : PK n₀ Bv Bm W W.drew := ⟨(Below.refl _ _).drew, rfl, rfl⟩

theorem PK.drewN (n₀ Bv Bm : Nat) (W : World) (n : Nat) : PK n₀ Bv Bm W (W.drewN n) := ⟨pw_below_drewN (Below.refl _ _) n, rfl, rfl⟩

/-- The dark pixels among the first k. -/
def dots (a : Int) (xs : List Bool) : Nat → List (Int × Int)
  | 0 => []
  | k + 1 => dots a xs k ++ (if xs.getD k false = true then [((k : Int) % a, (k : Int) / a)] else [])
theorem dots_length (a : Int) (xs : List Bool) (k : Nat) : (dots a xs k).length ≤ k := by
  induction k with
  | zero => simp [dots]
  | succ k ih => simp only [dots, List.length_append]; split <;> simp <;> omega
theorem dots_prefix (a : Int) (xs : List Bool) {j k : Nat} (h : j ≤ k) : dots a xs j <+: dots a xs k := by
  induction k with
  | zero => obtain rfl : j = 0 := by omega
            exact List.prefix_refl _
  | succ k ih =>
    rcases Nat.lt_or_ge j (k + 1) with h1 | h1
    · exact (ih (by omega)).trans ⟨_, rfl⟩
    · obtain rfl : j = k + 1 := by omega
      exact List.prefix_refl _

theorem dots_more (a : Int) (xs : List Bool) {k : Nat} (hk : k < xs.length) (hd : xs.getD k false = true) : (dots a xs k).length < (dots a xs xs.length).length := by
  have h := (dots_prefix a xs (show k + 1 ≤ xs.length by omega)).length_le
  rw [show dots a xs (k + 1) = dots a xs k ++ [((k : Int) % a, (k : Int) / a)] by rw [dots, if_pos hd], List.length_append] at h
  simp only [List.length_cons, List.length_nil] at h
  omega

theorem run_rem (k : Nat) (a : Int) (ha : 1 ≤ a) (hk : k ≤ 140737488351232) (w : World) : (Op.intDiv .rem .i64 (k : Int) a).run Try.prog w = .ok (.int .i64 ((k : Int) % a)) w := by
  have ha' : ¬ (a = 0) := by omega
  have h1 : Int.tmod (k : Int) a = (k : Int) % a := Int.tmod_eq_emod_of_nonneg (by omega)
  unfold Op.intDiv
  simp [ha', h1]
theorem run_quo (k : Nat) (a : Int) (ha : 1 ≤ a) (hk : k ≤ 140737488351232) (w : World) : (Op.intDiv .quo .i64 (k : Int) a).run Try.prog w = .ok (.int .i64 ((k : Int) / a)) w := by
  have ha' : ¬ (a = 0) := by omega
  have h1 : Int.tdiv (k : Int) a = (k : Int) / a := Int.tdiv_eq_ediv_of_nonneg (by omega)
  have h2 : (0 : Int) ≤ (k : Int) / a := Int.ediv_nonneg (by omega) (by omega)
  have h3 : (k : Int) / a ≤ (k : Int) := Int.ediv_le_self _ (by omega)
  have h4 : IntKind.i64.wrap ((k : Int) / a) = (k : Int) / a := Go.IntWalk.i64_in _ (by omega)
  unfold Op.intDiv
  simp [ha', h1, h4]

set_option maxRecDepth 100000 in
set_option maxHeartbeats 600000 in
theorem pixels1_in (n : Nat) (l Bv Bm : Nat) (a b : Int) (A : Option Addr) (c : Nat) (xs : List Bool) (ha : 1 ≤ a) (ha' : a ≤ 4096) (hlen : xs.length ≤ 140737488351232) (w0 : World)
    (hC : Kd.C Kd.bool w0 A xs.length xs) (J Jx : List (Int × Int) → World → Prop)
    (hY : ∀ pre x W, J pre W → pre.length < (dots a xs xs.length).length → (∃ k : Nat, k < xs.length ∧ x = ((k : Int) % a, (k : Int) / a)) → YieldAt Fence.wide (n - 1) Try.prog l #[.agg #[.int .i64 x.1, .int .i64 x.2]] W fun e W' =>
      (e = .returned (.bool true) ∧ J (pre ++ [x]) W' ∧ PK w0.heap.size Bv Bm W W') ∨ (e = .returned (.bool false) ∧ Jx (pre ++ [x]) W'))
    (hJ : ∀ pre W, J pre W → J pre W.drew) (hJN : ∀ pre W, J pre W → ∀ n, J pre (W.drewN n))
    (W : World) (hW : Below w0.heap.size w0 W) (hv : W.heap[Bv]? = some (.cells #[.bool true] 4 (0, 0))) (hm : W.heap[Bm]? = some (.cells #[.int .i64 a, .int .i64 b, .slice A xs.length c] 24 (0, 0))) (h0 : J [] W) :
    CallsIn Fence.wide n Try.prog 49 #[.func (.yield l) #[] #[], .pointer (some ⟨Bv, 0, none⟩), .pointer (some ⟨Bm, 0, none⟩)] W fun e W' => (∃ v, e = .returned v) ∧
      ((∃ ys, ys = dots a xs xs.length ∧ J ys W') ∨ (∃ pre, (∃ k, k ≤ xs.length ∧ pre = dots a xs k) ∧ Jx pre W')) := by
  refine callsIn_of_wp Try.func49 rfl trivial ?_ rfl
  simp only [Try.ntmps49, List.size_toArray, List.length_cons, List.length_nil, Nat.reduceAdd, Nat.reduceSub, Array.replicate_succ, Array.replicate_zero, List.push_toArray, List.append_toArray, List.nil_append, List.cons_append]
  have hv0 : W.cell? ⟨Bv, 0, none⟩ = some (.bool true) := (blk_cell hv 0).trans rfl
  have hm0 : W.cell? ⟨Bm, 0, none⟩ = some (.int .i64 a) := (blk_cell hm 0).trans rfl
  have hm1 : W.cell? ⟨Bm, 1, none⟩ = some (.int .i64 b) := (blk_cell hm 1).trans rfl
  have hm2 : W.cell? ⟨Bm, 2, none⟩ = some (.slice A xs.length c) := (blk_cell hm 2).trans rfl
  gi_wp2
  gi_loopw [11] (fun i wr => ∃ k : Nat, k ≤ xs.length ∧ i = .int .i64 k ∧ J (dots a xs k) wr ∧ PK w0.heap.size Bv Bm W wr)
    (fun i _ => xs.length - (intOf i).toNat)
  case atStart => exact ⟨0, Nat.zero_le _, rfl, h0, PK.refl _ _ _ _⟩
  case round =>
    obtain ⟨k, hk, rfl, hJs, hnx⟩ := hrel
    by_cases hlt : k < xs.length
    · have hC1 : Kd.C Kd.bool wr A xs.length xs := Kd.C_below hC (hW.trans hnx.1)
      obtain ⟨ad, rfl, hx⟩ := Kd.at_bool hC1 (k : Int) (by omega) (by omega)
      rw [Int.toNat_natCast] at hx
      have hm0' : wr.cell? ⟨Bm, 0, none⟩ = some (.int .i64 a) := (blk_cell (hnx.2.2.trans hm) 0).trans rfl
      by_cases hd : rdOf false xs (k : Int) = true
      · have hY1 := hY (dots a xs k) ((k : Int) % a, (k : Int) / a) wr.drew (hJ _ _ hJs) (dots_more a xs hlt (by simpa [rdOf] using hd)) ⟨k, hlt, rfl⟩
        dsimp only at hY1
        rw [hd] at hx
        obtain ⟨fn, tmps, assign, body, hy, hR⟩ := hY1
        obtain ⟨X1, hX1⟩ : ∃ X1, X1 = (k : Int) % a := ⟨_, rfl⟩
        obtain ⟨X2, hX2⟩ : ∃ X2, X2 = (k : Int) / a := ⟨_, rfl⟩
        rw [← hX1, ← hX2] at hR
        rw [← hX1, ← hX2] at hy
        have HX1 := Aside0.mk hX1
        have HX2 := Aside0.mk hX2
        have e1 : Int.tmod (k : Int) a = X1 := by rw [hX1]; exact Int.tmod_eq_emod_of_nonneg (by omega)
        have e2 : IntKind.i64.wrap ((k : Int) / a) = X2 := by
          have h1 : (0 : Int) ≤ (k : Int) / a := Int.ediv_nonneg (by omega) (by omega)
          have h2 : (k : Int) / a ≤ (k : Int) := Int.ediv_le_self _ (by omega)
          rw [hX2]
          exact Go.IntWalk.i64_in _ (by omega)
        rw [← e1, ← e2] at hy
        have ha0 : ¬ (a = 0) := by omega
        have S6 := Aside0.mk ha
        have S7 := Aside0.mk ha'
        have S8 := Aside0.mk hk
        clear hX1 hX2 e1 e2 ha ha' hk
        have hR2 := Aside0.mk (hR.mono (R' := fun e W' => ∃ bb : Bool, e = .returned (.bool bb) ∧ Aside0 (if bb = true then J (dots a xs k ++ [(X1, X2)]) W' ∧ PK w0.heap.size Bv Bm wr.drew W' else Jx (dots a xs k ++ [(X1, X2)]) W')) (by
          rintro e W' (⟨rfl, h1, h2⟩ | ⟨rfl, h1⟩)
          · exact ⟨true, rfl, ⟨by rw [if_pos rfl]; exact ⟨h1, h2⟩⟩⟩
          · exact ⟨false, rfl, ⟨by rw [if_neg (by decide)]; exact h1⟩⟩))
        clear hR hY
        gi_wp2
        have S1 := Aside0.mk hnx
        have S2 := Aside0.mk hJs
        have S3 := Aside0.mk hJ
        have S4 := Aside0.mk hlt
        have S5 := Aside0.mk hd
        clear hnx hC hC1 hW hv hm hm1 hm2 hv0 hm0 hx hd hJ h0 hJs
        have hwd : Fence.wide.depth.isSome = false := rfl
        gi_region_with ((with_reducible refine hR2.out.mono ?_); rintro e W3 ⟨bb, rfl, h3⟩)
        all_goals
          cases bb with
          | true =>
            have h4 := h3.out
            rw [if_pos rfl] at h4
            have h5 := Aside0.mk h4
            have h6 := Aside0.mk h3
            clear h3 h4
            gi_wp2
            go_roundw
            case rel =>
              refine ⟨k + 1, by have := S4.out; omega, by simp, ?_, S1.out.trans ((PK.drew _ _ _ _).trans h5.out.2)⟩
              have h7 : dots a xs (k + 1) = dots a xs k ++ [(X1, X2)] := by
                rw [HX1.out, HX2.out]
                show dots a xs k ++ (if xs.getD k false = true then _ else _) = _
                rw [if_pos (by have := S5.out; simpa [rdOf] using this)]
              rw [h7]
              exact h5.out.1
            case measure => have := S4.out; simp [intOf]; omega
          | false =>
            have h4 := h3.out
            rw [if_neg (by decide)] at h4
            have h5 := Aside0.mk h4
            clear h3 h4
            gi_wp2
            refine bodyPost_ret (results_none rfl _ _ _) rfl ?_
            refine ⟨⟨_, rfl⟩, .inr ⟨_, ⟨k + 1, by have := S4.out; omega, ?_⟩, h5.out⟩⟩
            rw [HX1.out, HX2.out]
            show _ = dots a xs k ++ (if xs.getD k false = true then _ else _)
            rw [if_pos (by have := S5.out; simpa [rdOf] using this)]
      · have hd' : rdOf false xs (k : Int) = false := by simpa using hd
        rw [hd'] at hx
        have S1 := Aside0.mk hnx
        have S2 := Aside0.mk (hJN _ _ hJs)
        have S4 := Aside0.mk hlt
        have S5 := Aside0.mk hd'
        have S6 := Aside0.mk ha
        have S7 := Aside0.mk ha'
        have S8 := Aside0.mk hk
        clear hd hd' hY
        gi_wp2
        clear hnx hC hC1 hW hv hm hm1 hm2 hv0 hm0 hx hJ h0 hJs
        have hwd : Fence.wide.depth.isSome = false := rfl
        refine wpIn_region_quiet_lit rfl (by kernel_rfl) (by kernel_rfl) ?_
        repeat (gi_big_quiet_step (fail))
        refine BigFrame.wpQuietIn_skip (fun _ _ _ _ => trivial) rfl ?_
        simp only [Act.put, List.setIfInBounds_toArray, List.set_cons_zero, List.set_cons_succ]
        repeat (gi_big_quiet_step (fail))
        refine wpQuietIn_nil ?_
        intro _ hw'
        obtain ⟨nq, hw''⟩ := hw'
        subst hw''
        gi_wp2
        go_roundw
        case rel =>
          refine ⟨k + 1, by have := S4.out; omega, by go_num, ?_, S1.out.trans (PK.drewN _ _ _ _ _)⟩
          have h7 : dots a xs (k + 1) = dots a xs k := by
            show dots a xs k ++ (if xs.getD k false = true then _ else _) = _
            rw [if_neg (by have := S5.out; simp [rdOf] at this; simp [this]), List.append_nil]
          rw [h7]
          exact S2.out nq
        case measure => have := S4.out; simp [intOf]; omega
    · obtain rfl : k = xs.length := by omega
      gi_wp2
      go_end0
      exact ⟨⟨_, rfl⟩, .inl ⟨_, rfl, hJs⟩⟩

/-! A region that draws its order, within a round of a range over a function: walked by the print's own steps. -/
section
variable {P : Program} {ops : Array Oper} {Q : Exit → Act → World → Prop}
theorem op_inRound {o : Oper} {a : Act} {w : World} {K : Act → World → Prop} (l n : Nat) (hd : ∀ c, o.op ≠ .defer c) (h : o.wp P a w K Q) : o.wpIn (Fence.wide.inRound l) n P a w K Q := by
  refine ⟨fun _ _ => trivial, ?_⟩
  rw [show (Fence.wide.inRound l).round = some l from rfl, Oper.semAt_some l _ o hd]
  unfold Oper.wp at h
  generalize (execOp a.eval o).run P w = r at h ⊢
  match r, h with
  | .ok (.value v) w', h => exact h
  | .ok .skip w', h => exact h
  | .ok (.defer d) w', h => exact h
  | .ok (.enter f args) w', h =>
    refine ⟨fun hh => (by cases hh), ?_⟩
    exact CallsIn.inRound l ((callsIn_wide (n := n - 1)).2 h)
  | .ok (.row row args) w', h =>
    refine ⟨fun hh => (by cases hh), ?_⟩
    exact fun c cs _ => let ⟨v, w', r, s⟩ := h c cs; ⟨v, w', r, stepsIn_wide.2 s⟩
  | .halt (.panic v) w', h => exact h
def noDefer (o : Oper) : Bool := match o.op with
  | .defer _ => false
  | _ => true
theorem noDefer_of (h : ops.all noDefer = true) {i : Nat} {o : Oper} (ho : ops[i]? = some o) : ∀ c, o.op ≠ .defer c := by
  intro c hc
  rw [Array.all_eq_true'] at h
  have h1 := h o (Array.mem_of_getElem? ho)
  simp [noDefer, hc] at h1
theorem any_inRound {md : Region.Mode} (l n : Nat) (hops : ops.all noDefer = true) (hlo : ¬ LetsOut Q) : ∀ (fuel : Nat) (listed : Array Bool) (a : Act) (w : World), wpAny P md ops Q fuel listed a w → wpAnyIn (Fence.wide.inRound l) n P md ops Q fuel listed a w
  | 0, listed, a, w, h => h
  | fuel + 1, listed, a, w, h => by
    refine ⟨h.1, fun i hi => ?_⟩
    have h2 := h.2 i hi
    unfold wpOp at h2
    unfold wpOpIn
    cases ho : ops[i]? with
    | none => rw [ho] at h2; exact any_inRound l n hops hlo fuel _ a w h2
    | some o =>
      rw [ho] at h2
      simp only at h2 ⊢
      by_cases hw : Region.wanted o (yielded ops a.tmps) = true
      · rw [if_pos hw] at h2 ⊢
        rcases h2 with h2 | h2
        · exact Oper.wpIn_mono (fun a w h => any_inRound l n hops hlo fuel _ a w h) (op_inRound l n (noDefer_of hops ho) h2)
        · exact absurd h2.2 hlo
      · rw [if_neg hw] at h2 ⊢
        exact ⟨fun _ _ => trivial, any_inRound l n hops hlo fuel _ _ w h2⟩
theorem startIn_ {S : World → Prop} {ds : List Nat} {id m : Nat} {a : Act} {w : World} (lr n : Nat) (hops : ops.all noDefer = true) (hlo : ¬ LetsOut Q) (l : Array Bool) (hm : P.follows .mixedOrders = true) (hn : ops.size = m) (hl : Array.replicate m false = l) (hS : S w.drew)
    (h : S w.drew → wpAnyLast P .any ops Q S ds m l a w.drew) : (Code.region id ops true).wpIn (Fence.wide.inRound lr) n P Q a w := by
  subst hn
  subst hl
  exact wpIn_region_any hm (any_inRound lr n hops hlo _ _ _ _ (wpAny_of_last _ _ _ _ (h hS)))
end
attribute [local go_sem] max2_int min2_int max_two min_two Oper.semAt_some
theorem abides_drew {β : Type} {B : Nat} {J : β → World → Prop} (h : AbidesFrom B J) (s : β) (W : World) (hJ : J s W) (n : Nat) : J s (W.drewN n) :=
  h s W _ none hJ (grown_of_below (pw_below_drewN (Below.refl _ _) n) none) (fun r e => by cases e)

theorem pixels_stops (n : Nat) (Bv Bm : Nat) (v : Bool) (a b : Int) (A : Option Addr) (c : Nat) (xs : List Bool) (ha : v = true → 1 ≤ a ∧ a ≤ 4096) (hlen : xs.length ≤ 140737488351232) (w0 : World) (hC : Kd.C Kd.bool w0 A xs.length xs)
    (w : World) (hw : Below w0.heap.size w0 w) (hBv : w.heap[Bv]? = some (.cells #[.bool v] 4 (0, 0))) (hBm : w.heap[Bm]? = some (.cells #[.int .i64 a, .int .i64 b, .slice A xs.length c] 24 (0, 0))) :
    SeqStopsK Fence.wide n Try.prog 49 #[.pointer (some ⟨Bv, 0, none⟩), .pointer (some ⟨Bm, 0, none⟩)] (fun x : Int × Int => #[.agg #[Value.int .i64 x.1, Value.int .i64 x.2]]) (PK w0.heap.size Bv Bm)
      (fun ys => ys = if v = true then dots a xs xs.length else []) (fun pre => v = true ∧ ∃ k, k ≤ xs.length ∧ pre = dots a xs k) (if v = true then dots a xs xs.length else []).length w := by
  intro l J Jx W hW hJ hJx hY h0
  have hv := blk_below hBv hW
  have hm := blk_below hBm hW
  cases v with
  | true =>
    obtain ⟨h1, h2⟩ := ha rfl
    refine (pixels1_in n l Bv Bm a b A c xs h1 h2 hlen w0 hC J Jx (fun pre x W h1 h2 _ => hY pre x W h1 (by rw [if_pos rfl]; exact h2)) (fun pre W h => abides_drew hJ pre W h 1) (fun pre W h n => abides_drew hJ pre W h n) W (hw.trans (hW.mono hw.size)) hv hm h0).mono ?_
    rintro e W' ⟨he, ⟨ys, rfl, h⟩ | ⟨pre, h1, h⟩⟩
    · exact ⟨he, .inl ⟨_, by rw [if_pos rfl], h⟩⟩
    · exact ⟨he, .inr ⟨_, ⟨rfl, h1⟩, h⟩⟩
  | false =>
    refine callsIn_of_wp Try.func49 rfl trivial ?_ rfl
    simp only [Try.ntmps49, List.size_toArray, List.length_cons, List.length_nil, Nat.reduceAdd, Nat.reduceSub, Array.replicate_succ, Array.replicate_zero, List.push_toArray, List.append_toArray, List.nil_append, List.cons_append]
    have hv0 : W.cell? ⟨Bv, 0, none⟩ = some (.bool false) := (blk_cell hv 0).trans rfl
    gi_wp2
    refine bodyPost_ret (results_none rfl _ _ _) rfl ?_
    first | exact ⟨⟨_, rfl⟩, Or.inl ⟨[], rfl, h0⟩⟩ | exact ⟨⟨_, rfl⟩, Or.inl h0⟩ | exact ⟨⟨_, rfl⟩, h0⟩ | simpa using h0
/-- The dark pixels' numbers among the first k. -/
def darks (xs : List Bool) : Nat → List Nat
  | 0 => []
  | k + 1 => darks xs k ++ (if xs.getD k false = true then [k] else [])
theorem dots_darks (a : Int) (xs : List Bool) : ∀ k, dots a xs k = (darks xs k).map fun i : Nat => ((i : Int) % a, (i : Int) / a)
  | 0 => rfl
  | k + 1 => by
    rw [dots, darks, List.map_append, dots_darks a xs k]
    split <;> rfl
theorem spot_inj {a : Int} {i j : Nat} (h : (((i : Nat) : Int) % a, ((i : Nat) : Int) / a) = (((j : Nat) : Int) % a, ((j : Nat) : Int) / a)) : i = j := by
  simp only [Prod.mk.injEq] at h
  have h1 := Int.mul_ediv_add_emod (i : Int) a
  have h2 := Int.mul_ediv_add_emod (j : Int) a
  rw [h.1, h.2, h2] at h1
  omega
theorem map_spot_inj {a : Int} : ∀ {p q : List Nat}, (p.map fun i : Nat => ((i : Int) % a, (i : Int) / a)) = (q.map fun i : Nat => ((i : Int) % a, (i : Int) / a)) → p = q
  | [], [], _ => rfl
  | [], _ :: _, h => by simp at h
  | _ :: _, [], h => by simp at h
  | x :: p, y :: q, h => by
    simp only [List.map_cons, List.cons.injEq] at h
    rw [spot_inj h.1, map_spot_inj h.2]
/-- The place of pixel number x (over the length n). -/
def px (a : Int) (n x : Nat) : Int := ((x % n : Nat) : Int) % a
def py (a : Int) (n x : Nat) : Int := ((x % n : Nat) : Int) / a
/-- The iterator over the dark pixels, told by their numbers: what it yields is always a pixel of the bitmap. -/
theorem pixels_marks (n : Nat) (Bv Bm : Nat) (a b : Int) (A : Option Addr) (c : Nat) (xs : List Bool) (ha1 : 1 ≤ a) (ha2 : a ≤ 4096) (hlen : xs.length ≤ 140737488351232) (w0 : World) (hC : Kd.C Kd.bool w0 A xs.length xs)
    (w : World) (hw : Below w0.heap.size w0 w) (hBv : w.heap[Bv]? = some (.cells #[.bool true] 4 (0, 0))) (hBm : w.heap[Bm]? = some (.cells #[.int .i64 a, .int .i64 b, .slice A xs.length c] 24 (0, 0))) :
    SeqStopsK Fence.wide n Try.prog 49 #[.pointer (some ⟨Bv, 0, none⟩), .pointer (some ⟨Bm, 0, none⟩)] (fun x : Nat => #[.agg #[Value.int .i64 (px a xs.length x), Value.int .i64 (py a xs.length x)]]) (PK w0.heap.size Bv Bm)
      (fun ys => ys = darks xs xs.length) (fun _ => True) xs.length w := by
  intro l J Jx W hW hJ hJx hY h0
  have hv := blk_below hBv hW
  have hm := blk_below hBm hW
  refine (pixels1_in n l Bv Bm a b A c xs ha1 ha2 hlen w0 hC (fun pre W => ∃ q : List Nat, pre = (q.map fun i : Nat => ((i : Int) % a, (i : Int) / a)) ∧ J q W) (fun pre W => ∃ q : List Nat, pre = (q.map fun i : Nat => ((i : Int) % a, (i : Int) / a)) ∧ Jx q W)
    ?_ ?_ ?_ W (hw.trans (hW.mono hw.size)) hv hm ⟨[], rfl, h0⟩).mono ?_
  · rintro pre x W1 ⟨q, rfl, hq⟩ hl ⟨k, hk, rfl⟩
    have h1 := hY q k W1 hq (by have := dots_length a xs xs.length; simp only [List.length_map] at hl; omega)
    simp only [px, py, Nat.mod_eq_of_lt hk] at h1
    obtain ⟨fn, tmps, assign, body, hy, hR⟩ := h1
    refine ⟨fn, tmps, assign, body, hy, hR.mono ?_⟩
    rintro e W' (⟨he, h1, h2⟩ | ⟨he, h1⟩)
    · exact .inl ⟨he, ⟨q ++ [k], by rw [List.map_append]; rfl, h1⟩, h2⟩
    · exact .inr ⟨he, ⟨q ++ [k], by rw [List.map_append]; rfl, h1⟩⟩
  · rintro pre W1 ⟨q, hq, h⟩
    exact ⟨q, hq, abides_drew hJ q W1 h 1⟩
  · rintro pre W1 ⟨q, hq, h⟩ m
    exact ⟨q, hq, abides_drew hJ q W1 h m⟩
  · rintro e W' ⟨he, ⟨ys, rfl, q, hq, h⟩ | ⟨pre, h1, q, hq, h⟩⟩
    · rw [dots_darks] at hq
      obtain rfl := map_spot_inj hq
      exact ⟨he, .inl ⟨_, rfl, h⟩⟩
    · exact ⟨he, .inr ⟨q, trivial, h⟩⟩
theorem pk_putObj {n₀ Bv Bm : Nat} {w6 : World} (h0 : n₀ ≤ w6.heap.size) (h1 : Bv < w6.heap.size) (h2 : Bm < w6.heap.size) : ∀ (W : World) (l : Nat) (o o' : Obj), w6.heap.size ≤ l → W.heap[l]? = some o → o.isCells = false → o.isWalk = false → PK n₀ Bv Bm W (W.putObj l o') := fun W l o o' hl ho hc hw =>
  ⟨belowK_b (w := w6) h0 W l o o' hl ho hc hw, World.putObj_heap_other (by omega), World.putObj_heap_other (by omega)⟩

theorem cells_own {β : Type} (B : Nat) (t : TypeId) (f : β → Array Value) : Own (fun s W => W.heap[B]? = some (.cells (f s) t (0, 0))) := fun s X Y row hs hg hrow =>
  (hg.block B (blk_lt hs) (fun e' => by obtain ⟨o, ho, hc⟩ := hrow B e'.symm; rw [hs] at ho; cases ho; cases hc)).trans hs

/-- A panic is no way out. -/
def noPanic (Q : Exit → Act → World → Prop) : Exit → Act → World → Prop
  | .panic _, _, _ => False
  | e, a, w => Q e a w
theorem noPanic_le {Q : Exit → Act → World → Prop} : ∀ e a w, noPanic Q e a w → Q e a w := by
  intro e a w h
  cases e <;> first | exact h | exact h.elim
end Go.Proofs.Ytcmcmoaikabfoaa.XPixels
