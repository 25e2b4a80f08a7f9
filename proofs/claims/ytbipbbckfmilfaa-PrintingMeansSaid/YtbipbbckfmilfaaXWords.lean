/-
Words for walks; what this claim does not need is left out. Conditions: as each theorem says.
-/
import Derived.Test.YtbipbbckfmilfaaWWords
import Derived.Test.YtbipbbckfmilfaaWLast
import Derived.Test.YtbipbbckfmilfaaWMore
import Derived.Laws.CopyOwn
import Derived.Laws.MakeOwn
import Derived.WalkSpells
namespace Go.Proofs.Ytbipbbckfmilfaa.XWords
set_option linter.unusedVariables false
open Go.RowKit Go.Proofs.YtbipbbckfmilfaaW.PrintWords Go.Proofs.YtbipbbckfmilfaaW.PrintLast Go.Proofs.YtbipbbckfmilfaaW.PrintMore
/-- 'copy(xs[off:off+m], ys)'. -/
def copyIn {α : Type} (xs : List α) (off m : Nat) (ys : List α) : List α := splice xs off (ys.take m)
theorem copyIn_length {α : Type} (xs : List α) (off m : Nat) (ys : List α) (h : off + m ≤ xs.length) : (copyIn xs off m ys).length = xs.length := by
  unfold copyIn
  exact length_splice _ _ _ (by rw [List.length_take]; omega)
theorem splice_map {α β : Type} (f : α → β) (xs : List α) (off : Nat) (cs : List α) : (splice xs off cs).map f = splice (xs.map f) off (cs.map f) := by
  simp [splice, List.map_take, List.map_drop]
theorem splice_nil {α : Type} (xs : List α) (off : Nat) : splice xs off [] = xs := by simp [splice]
theorem getElem?_splice {α : Type} (xs : List α) (off : Nat) (cs : List α) (h : off ≤ xs.length) (j : Nat) : (splice xs off cs)[j]? = if j < off then xs[j]? else if j < off + cs.length then cs[j - off]? else xs[j]? := by
  unfold splice
  by_cases h1 : j < off
  · rw [if_pos h1, List.getElem?_append_left (by rw [List.length_take]; omega), List.getElem?_take, if_pos h1]
  · rw [if_neg h1, List.getElem?_append_right (by rw [List.length_take]; omega), List.length_take, Nat.min_eq_left h]
    by_cases h2 : j < off + cs.length
    · rw [if_pos h2, List.getElem?_append_left (by omega)]
    · rw [if_neg h2, List.getElem?_append_right (by omega), List.getElem?_drop]
      congr 1
      omega
theorem take_splice {α : Type} (cur : List α) (k off : Nat) (cs : List α) (h : off + cs.length ≤ k) (hk : k ≤ cur.length) : (splice cur off cs).take k = splice (cur.take k) off cs := by
  apply List.ext_getElem?
  intro j
  rw [List.getElem?_take, getElem?_splice _ _ _ (by omega), getElem?_splice _ _ _ (by rw [List.length_take]; omega), List.getElem?_take]
  by_cases hj : j < k
  · simp only [if_pos hj]
  · simp only [if_neg hj]
    rw [if_neg (by omega), if_neg (by omega)]
section
variable {P : Program} {ops : Array Oper} {rest : List Oper} {o : Oper} {a : Act} {Q : Exit → Act → World → Prop} {Kc : Act → World → Prop} {α : Type}
theorem copyin_run {enc : α → Value} {h1 : ∀ x, (enc x).oneCell' = true} {W : World} (base : Nat) (t u ty e : TypeId) (ht : P.underlying t = some (.slice e)) (hsz : (P.info? e).map (·.size) = some 1)
    {A0 : Option Addr} {n0 c0 off m c1 : Nat} {A : Option Addr} {k c2 : Nat} {A2 : Option Addr} {xs ys : List α} {ok : Nat → Prop}
    (hA : A = if c0 = off then A0 else A0.map (·.add (off * 1))) (hm : off + m ≤ n0)
    (HO : (Kd.scalar enc h1).R e W base ok (.slice A0 n0 c0) xs) (HR : (Kd.scalar enc h1).C W A2 k ys) :
    ∃ w1 q, (Builtin.copy_ #[t, u] ty #[.slice A m c1, .slice A2 k c2]).run P W = .ok (goInt q) w1 ∧ (Kd.scalar enc h1).R e w1 base ok (.slice A0 n0 c0) (copyIn xs off m ys) ∧ W.grownBy w1 (Value.slice A0 n0 c0).ownBlock := by
  obtain ⟨hn, hnc, _⟩ := Kd.R_reads' HO
  have hyl : ys.length = k := HR.1
  have hown := Kd.own_of_R HO
  by_cases h0 : min k m = 0
  · refine ⟨W, 0, run_copy_none (P := P) W t u ty e A A2 m c1 k c2 ht hsz h0, ?_, grown_of_below (Below.refl _ _) _⟩
    have he : copyIn xs off m ys = xs := by
      unfold copyIn
      have : ys.take m = [] := List.eq_nil_of_length_eq_zero (by rw [List.length_take]; omega)
      rw [this, splice_nil]
    rw [he]
    exact HO
  · rcases hown.2 with ⟨hv, hn0⟩ | ⟨g, cap, cur, hv, hb, hh, hnc', hcm, hcs, htake⟩
    · omega
    injection hv with ha _ hc
    subst ha; subst hc
    have hon : off < n0 := by omega
    rw [if_neg (by omega)] at hA
    simp only [Option.map_some, Nat.mul_one] at hA
    rw [add_plain] at hA
    subst hA
    obtain ⟨ad, rfl, hcell⟩ := HR.2.2 (by omega)
    have hcur : cur.size = c0 := by omega
    have hcs' : ∀ j v, (encs enc (ys.take m))[j]? = some v → W.cell? (ad.add j) = some v := by
      intro j v hj
      simp only [encs, List.getElem?_map, Option.map_eq_some_iff] at hj
      obtain ⟨y, hy, rfl⟩ := hj
      rw [List.getElem?_take] at hy
      split at hy
      · obtain ⟨c, hcl, hK, hcc⟩ := hcell j y hy
        have hK' : c = [enc y] := hK
        subst hK'
        have := hcc 0 (enc y) rfl
        simpa [Kd.scalar] using this
      · cases hy
    have hcl : (encs enc (ys.take m)).length = min k m := by rw [encs_length, List.length_take, hyl, Nat.min_comm]
    have hrun := run_copy_row (P := P) W t u ty e g off m c1 ad k c2 cur e (encs enc (ys.take m)) ht hsz hh (by rw [hcl]) hcs' (by omega) (by
      intro v hv
      simp only [encs, List.mem_map] at hv
      obtain ⟨x, _, rfl⟩ := hv
      exact h1 x)
    have hsp : (cur.toList.take off ++ encs enc (ys.take m) ++ cur.toList.drop (off + (encs enc (ys.take m)).length)) = splice cur.toList off (encs enc (ys.take m)) := by unfold splice; rw [List.append_assoc]
    have hcl3 : cur.toList.length = c0 := by rw [Array.length_toList]; exact hcur
    rw [hsp] at hrun
    refine ⟨_, _, hrun, ?_, ?_⟩
    · have hlen : (copyIn xs off m ys).length = xs.length := copyIn_length _ _ _ _ (by omega)
      refine Kd.R_of_own ?_ (fun k' hk' => HO.1 k' hk')
      refine ⟨by rw [encs_length, Nat.mul_one], .inr ⟨g, c0, (splice cur.toList off (encs enc (ys.take m))).toArray, by rw [hlen, ← hn], hb, setRow_heap W g _ _ _ _ hh, by rw [hlen]; omega, hcm, ?_, ?_⟩⟩
      · have hcl2 : cur.toList.length = c0 := by rw [Array.length_toList]; exact hcur
        have h6 := length_splice cur.toList off (encs enc (ys.take m)) (by rw [hcl, hcl2]; omega)
        rw [List.size_toArray, h6, hcl2, Nat.mul_one]
      · rw [hlen, Nat.mul_one]
        rw [Nat.mul_one] at htake
        show List.take xs.length (splice cur.toList off (encs enc (ys.take m))) = _
        rw [take_splice _ _ _ _ (by rw [hcl]; omega) (by rw [hcl3]; omega), htake]
        unfold copyIn
        unfold encs
        rw [splice_map]
    · exact ⟨rfl, rfl, rfl, by simp [World.setRow], fun k' _ hk' => setRow_other W g k' _ (fun e => hk' (by rw [e]; rfl))⟩
theorem R_copyin_step {enc : α → Value} {h1 : ∀ x, (enc x).oneCell' = true} {w0 W : World} (base : Nat) (hw : Region.wanted o (yielded ops a.tmps) = true) (s x : Operand) (t u e : TypeId) (ho : o.op = .call { callee := .builtin .copy, args := #[s, x], argTypes := #[t, u] })
    (ht : P.underlying t = some (.slice e)) (hsz : (P.info? e).map (·.size) = some 1)
    {A0 : Option Addr} {n0 c0 : Nat} (off : Nat) {m c1 : Nat} {A : Option Addr} {k c2 : Nat} {A2 : Option Addr} {xs : List α} (ys : List α) {ok : Nat → Prop} (hs : a.eval s = .slice A m c1) (hx : a.eval x = .slice A2 k c2)
    (hA : A = if c0 = off then A0 else A0.map (·.add (off * 1))) (hm : off + m ≤ n0)
    (HO : (Kd.scalar enc h1).R e W base ok (.slice A0 n0 c0) xs) (HR : (Kd.scalar enc h1).C W A2 k ys) (HB : Below base w0 W) (hbase : base ≤ W.heap.size)
    (h : ∀ w1 q, (Kd.scalar enc h1).R e w1 base ok (.slice A0 n0 c0) (copyIn xs off m ys) → Below base w0 w1 → W.grownBy w1 (Value.slice A0 n0 c0).ownBlock → Kc (a.put o.dst (goInt q)) w1) :
    if Region.wanted o (yielded ops a.tmps) = true then Oper.wp P o a W Kc Q else Kc (a.put o.dst undef) W := by
  obtain ⟨w1, q, hr, h2, h3⟩ := copyin_run (P := P) base t u o.type e ht hsz (c1 := c1) (c2 := c2) hA hm HO HR
  rw [if_pos hw]
  unfold Oper.wp execOp
  simp only [ho, resolve, invoke, builtin, Sem.run_bind, Sem.run_pure, Result.andThen_ok, List.map_toArray, List.map_cons, List.map_nil, hs, hx, hr]
  exact h w1 q h2 (HB.grown h3 hbase (fun k hk => Kd.R_base HO k hk)) h3
/-- make([]T, 0, n). -/
theorem R_makecap (d : Kd α) {w0 W : World} (base e : Nat) (hgd : o.guard = none) {N : Tmp} (hd : o.dst = some N) (t : TypeId) (x y : Operand) (ho : o.op = .makeSlice t x y) (n : Int) (hx : a.eval x = .int .i64 0) (hy : a.eval y = .int .i64 n)
    (ht : P.underlying t = some (.slice e)) (z : Value) (bytes : Nat) (hinfo : (P.info? e).map (fun i => (i.zero, i.size, i.bytes)) = some (some z, d.sz, bytes)) (hz : z.cells.size = d.sz) (hs0 : 0 < d.sz) (hb0 : 0 < bytes)
    {ok : Nat → Prop} (hfresh : ok W.heap.size) (h0 : 0 ≤ n) (hl : n.toNat * bytes ≤ 281474976710656) (HB : Below base w0 W) (hbase : base ≤ W.heap.size)
    (h : ∀ v1 w1, d.R e w1 base ok v1 ([] : List α) → Below base w0 w1 → W.grownBy w1 none → (∃ b, v1.ownBlock = some b ∧ W.heap.size ≤ b) → wpList P ops Q rest (a.put o.dst v1) w1) : wpList P ops Q (o :: rest) a W := by
  obtain ⟨m, rfl⟩ := Int.eq_ofNat_of_zero_le h0
  simp only [Int.toNat_natCast] at hl h
  obtain ⟨i0, hi, hzz⟩ := Option.map_eq_some_iff.1 hinfo
  simp only [Prod.mk.injEq] at hzz
  obtain ⟨hz0, hz1, hz2⟩ := hzz
  have hm : m ≤ 281474976710656 := Nat.le_trans (Nat.le_mul_of_pos_right _ hb0) hl
  have hr := run_make (P := P) W t e i0 z ht hi hz0 .i64 .i64 0 (m : Int) (by omega) (by omega)
    (by
      have h3 : ((i0.bytes * m : Nat) : Int) ≤ 281474976710656 := by rw [hz2, Nat.mul_comm]; omega
      rwa [Int.natCast_mul] at h3) (by omega)
  simp only [Int.toNat_natCast, Int.toNat_zero] at hr
  rw [hz1] at hr
  refine Kd.event_run hgd (v := .slice (some ⟨W.heap.size, 0, none⟩) 0 m) (w1 := W.alloc (.cells (madeCells z.cells (m * d.sz)) e)) (by simp [execOp, ho, hx, hy, hr]) (h _ _ ⟨fun k hk => ?_, [], ?_, Reps.none _ _⟩ (HB.alloc hbase _) (World.grownBy_alloc W _ none) ⟨W.heap.size, by simp [Value.ownBlock], Nat.le_refl _⟩)
  · have : W.heap.size = k := by simpa [Value.ownBlock] using hk
    subst this
    exact hfresh
  · refine ⟨by simp, .inr ⟨W.heap.size, m, _, rfl, hbase, heap_alloc_new W _, Nat.zero_le _, by simp only [maxLen]; omega, ?_, by simp⟩⟩
    exact size_madeCells _ _
end
end Go.Proofs.Ytbipbbckfmilfaa.XWords
