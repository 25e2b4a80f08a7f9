-- Written by this session's own program (myprint.py).
import Derived.Test.YtcmcmoaikabfoaaPRx0
import Derived.Test.YtcmcmoaikabfoaaPRx2
import Derived.Test.YtcmcmoaikabfoaaPRx4
import Derived.Test.YtcmcmoaikabfoaaPRx7
import Derived.Test.YtcmcmoaikabfoaaPRx9
import Derived.Test.YtcmcmoaikabfoaaPRx10
namespace Go.Proofs.Ytcmcmoaikabfoaa.PR
open Go.RowKit Go.Proofs.YtcmcmoaikabfoaaW.PrintWords Go.Proofs.YtcmcmoaikabfoaaW.PrintLast Go.Proofs.YtcmcmoaikabfoaaW.PrintMore Go.Proofs.Ytcmcmoaikabfoaa.XWords Go.Proofs.Ytcmcmoaikabfoaa.XShort
attribute [local go_sem] max2_int min2_int max_two min_two max_three min_three max_four min_four   -- for this text's walks alone
set_option linter.unusedVariables false
set_option linter.unusedSimpArgs false

/-! ### barscanlaw31_RasterBounds: function 4 -/
def barscanlaw31_RasterBounds.core (k : Nat) (a b : Int) (l : List Bool) (most : Int) : Option Bool :=
 (raster_Bounds.f a b l).bind fun t => (barscanref31_Bounds.f k a b l).bind fun u => (barscanref31_Dots.f k a b l).bind fun d => (raster_Check.f a b l).bind fun e =>
  if t = u then (if d.map (fun p => (p.f0, p.f1)) = (if (e == 0) = true then XPixels.dots a l l.length else []) then (if 0 ≤ most ∧ most ≤ 65535 then (barscanlaw31_examples.f k) else none) else none) else none
def barscanlaw31_RasterBounds.f (k : Nat) (a b : Int) (l : List Bool) (most : Int) : Option Bool :=
 if (l.length : Int) > 40000 then (barscanlaw31_examples.f k) else barscanlaw31_RasterBounds.core k a b l most
/-- What the loop keeps: the variables in memory (n is the counter), the expected pixels, and what lay ahead of the call. -/
def barscanlaw31_RasterBounds.J (w : World) (n0 g3 g4 g10 g11 : Nat) (most : Int) (Ad : Option Addr) (cd : Nat) (d : List S43) (n : Int) (W : World) : Prop :=
 ((W.heap[g3]? = some (.cells #[.int .u16 most] 34 (0, 0)) ∧ W.heap[g4]? = some (.cells #[.bool false] 4 (0, 0)) ∧ W.heap[g10]? = some (.cells #[.slice Ad d.length cd] 40 (0, 0)) ∧ W.heap[g11]? = some (.cells #[.int .i64 n] 3 (0, 0)) ∧ Kd.R k43 43 W w.heap.size (fun k_ => some k_ = (Value.slice Ad d.length cd).ownBlock) (.slice Ad d.length cd) d)) ∧ (Below w.heap.size w W ∧ n0 ≤ W.heap.size)
theorem barscanlaw31_RasterBounds.row_own {β : Type} {base : Nat} (v : Value) (d : List S43) : Own (fun (_ : β) W => Kd.R k43 43 W base (fun k => some k = v.ownBlock) v d) := fun s X Y row hs hg hrow =>
 Kd.R_step hs (fun k hk hlt => hg.block k hlt (fun e' => by
  obtain ⟨o, ho, hc⟩ := hrow k e'.symm
  obtain ⟨cells, hcl⟩ := Kd.R_typed hs k hk.symm
  rw [hcl] at ho
  cases ho
  cases hc))
theorem barscanlaw31_RasterBounds.J_own {β : Type} {w : World} {n0 g3 g4 g10 g11 : Nat} {most : Int} {Ad : Option Addr} {cd : Nat} {d : List S43} (f : β → Int) {B : Nat} (h1 : w.heap.size ≤ B) : OwnFrom B (fun (s : β) W => barscanlaw31_RasterBounds.J w n0 g3 g4 g10 g11 most Ad cd d (f s) W) := by
 unfold barscanlaw31_RasterBounds.J
 refine OwnFrom.and (OwnFrom.and (Own.from (XPixels.cells_own _ _ _) _) (OwnFrom.and (Own.from (XPixels.cells_own _ _ _) _) (OwnFrom.and (Own.from (XPixels.cells_own _ _ _) _) (OwnFrom.and (Own.from (XPixels.cells_own _ _ _) _) (Own.from (barscanlaw31_RasterBounds.row_own _ _) _))))) (OwnFrom.and (ownFrom_below (Nat.le_refl _) h1) ?_)
 exact fun s X Y row hs hg hr => Nat.le_trans hs hg.size
/-- How the loop may be left: by a return, at a pixel that is not the expected one, or by the break, behind most pixels. -/
def barscanlaw31_RasterBounds.Jx (w : World) (n0 g3 g4 g10 g11 : Nat) (most : Int) (Ad : Option Addr) (cd : Nat) (d : List S43) (c : Code) (pre : List (Int × Int)) (W : World) : Prop :=
 (c = .ret ∧ ¬ (pre <+: d.map (fun p => (p.f0, p.f1)))) ∨ (c = .exit 0 ∧ (pre.length : Int) = most + 1 ∧ barscanlaw31_RasterBounds.J w n0 g3 g4 g10 g11 most Ad cd d (pre.length : Int) W)
theorem barscanlaw31_RasterBounds.Jx_own {w : World} {n0 g3 g4 g10 g11 : Nat} {most : Int} {Ad : Option Addr} {cd : Nat} {d : List S43} (c : Code) {B : Nat} (h1 : w.heap.size ≤ B) : OwnFrom B (barscanlaw31_RasterBounds.Jx w n0 g3 g4 g10 g11 most Ad cd d c) := by
 intro s X Y row hs hg hr
 rcases hs with h | ⟨h, h2, h3⟩
 ·exact .inl h
 ·exact .inr ⟨h, h2, barscanlaw31_RasterBounds.J_own (w := w) (fun s : List (Int × Int) => (s.length : Int)) h1 s X Y row h3 hg hr⟩
theorem barscanlaw31_RasterBounds.not_prefix {d : List S43} {pre : List (Int × Int)} {x : Int × Int} (hn : pre.length < d.length) (h : ¬ (x.1 = (rd_T43 d (pre.length : Int)).f0 ∧ x.2 = (rd_T43 d (pre.length : Int)).f1)) : ¬ (pre ++ [x] <+: d.map (fun p => (p.f0, p.f1))) := by
 rintro ⟨t, ht⟩
 have h1 : (pre ++ [x] ++ t)[pre.length]? = some x := by simp
 rw [ht, List.getElem?_map, List.getElem?_eq_getElem hn, Option.map_some] at h1
 have h2 : rd_T43 d (pre.length : Int) = d[pre.length] := by
  unfold rd_T43
  rw [Int.toNat_natCast, List.getD_eq_getElem?_getD, List.getElem?_eq_getElem hn]
  rfl
 rw [h2] at h
 injection h1 with h1
 rw [← h1] at h
 exact h ⟨rfl, rfl⟩
theorem barscanlaw31_RasterBounds.results_bool {fn : Func} {p : Tmp} (h : fn.results = #[.cell p 4]) (tmps : Array Value) (w : World) (g : Nat) (bv : Bool) (hp : tmps.getD p undef = .pointer (some ⟨g, 0, none⟩)) (hc : w.cell? ⟨g, 0, none⟩ = some (.bool bv)) : (results fn tmps).run Try.prog w = .ok (.bool bv) w := by
 have hu : Try.prog.underlying 4 = some .bool := by kernel_rfl
 have hagg : (isAgg 4).run Try.prog w = .ok false w := by
  unfold isAgg
  rw [Sem.run_bind, run_underlying hu w]
  rfl
 have hp' : tmps[p]?.getD undef = .pointer (some ⟨g, 0, none⟩) := by simpa using hp
 simp [results, h, hp', asAddr, loadVar, Sem.run_bind, hagg, hc]
theorem barscanlaw31_RasterBounds.k43_flat {w : World} {base : Nat} {ok1 ok2 : Nat → Prop} {x : S43} {cs : List Value} (h : k43.M w base ok1 x cs) : k43.M w base ok2 x cs := by
 obtain rfl := k43_openM h
 exact k43_mkM w base ok2 x
theorem barscanlaw31_RasterBounds.hu38 : Try.prog.underlying 38 = some (.func #[71] #[] false) := by kernel_rfl
theorem barscanlaw31_RasterBounds.run_fn0 (d : Nat) (f : Fn) (xs ys : Array Value) (W : World) : Sem.run Try.prog (Op.equalIn (d + 1) 38 (.func f xs ys) .nilFunc) W = .ok false W := by
 simp only [Op.equalIn, Sem.run_bind, run_underlying barscanlaw31_RasterBounds.hu38, Result.andThen_ok]
 simp [Sem.run_pure]
theorem barscanlaw31_RasterBounds.run_fn (f : Fn) (xs ys : Array Value) (W : World) : Sem.run Try.prog (binOp BinOp.eql 38 (.func f xs ys) .nilFunc) W = .ok (.bool false) W := by
 rw [show binOp BinOp.eql 38 (.func f xs ys) .nilFunc = (do pure (.bool (← Op.equalIn (9999 + 1) 38 (.func f xs ys) .nilFunc))) from rfl]
 simp only [Sem.run_bind, barscanlaw31_RasterBounds.run_fn0, Result.andThen_ok]
 rfl
section
open Go.Shelf Go.Proofs.Ytcmcmoaikabfoaa.XPixels
attribute [local go_sem] Oper.semAt_some barscanlaw31_RasterBounds.run_fn
set_option maxHeartbeats 8000000 in
set_option maxRecDepth 100000 in
theorem barscanlaw31_RasterBounds.calls (k : Nat) (a b : Int) (A : Option Addr) (c : Nat) (l : List Bool) (most : Int) (r : Bool) (w : World) (hr0 : Kd.C Kd.bool w A l.length l) (hc0 : l.length ≤ c) (h : barscanlaw31_RasterBounds.f k a b l most = some r) :
  Calls Try.prog 4 #[.agg #[.int .i64 a, .int .i64 b, .slice A l.length c], .int .u16 most] w fun e w' => e = .returned (.bool r) ∧ Below w.heap.size w w' := by
 have hu24 := Try.underlying24
 have hu26 := Try.underlying26
 have HR0 := Aside0.mk hr0
 have HC0 := Aside0.mk hc0
 clear hr0 hc0
 have HB := Aside0.mk (Below.refl w.heap.size w)
 unfold barscanlaw31_RasterBounds.f at h
 by_cases hl : (l.length : Int) > 40000
 ·rw [if_pos hl] at h
  have HX := Aside0.mk h
  clear h
  refine (callsIn_wide (n := 5)).1 ?_
  refine callsIn_of_wp_marks Try.func4 rfl trivial ?_ rfl
  refine wpIn_mono (Q := noPanic _) ?_ noPanic_le
  refine wpIn_wide.2 ?_
  simp only [Try.ntmps4, List.size_toArray, List.length_cons, List.length_nil, Nat.reduceAdd, Nat.reduceSub, Array.replicate_succ, Array.replicate_zero, List.push_toArray, List.append_toArray, List.nil_append, List.cons_append]
  go_wp2_with (first | ((with_reducible refine gate_dst (N := 2) rfl ?_); refine box_event ?hg (N := 2) ?hd (cs := #[.int .i64 a, .int .i64 b, .slice A l.length c]) (t := 24) ?hr ?_; (case hd => rfl); (case hg => rfl); (case hr => first | (go_simp; done) | (go_simp; rfl)); intro g2 hg w1 hbox hb; have G2 := Aside0.mk ((by rw [hg]; exact HB.out.size : w.heap.size ≤ g2)); have n0_ := Aside0.mk (below_step HB.out hb); clear HB; have HB := n0_; clear n0_; clear hb; have B2 := Aside0.mk hbox; clear hbox hg) | ((with_reducible refine gate_dst (N := 3) rfl ?_); refine box_event ?hg (N := 3) ?hd (cs := #[.int .u16 most]) (t := 34) ?hr ?_; (case hd => rfl); (case hg => rfl); (case hr => first | (go_simp; done) | (go_simp; rfl)); intro g3 hg w2 hbox hb; have G3 := Aside0.mk ((by rw [hg]; exact HB.out.size : w.heap.size ≤ g3)); have N2_3 := Aside0.mk (by rw [hg]; have := blk_lt B2.out; omega : g2 ≠ g3); have N3_2 := Aside0.mk (N2_3.out).symm; have n0_ := Aside0.mk (blk_below B2.out hb); have n1_ := Aside0.mk (below_step HB.out hb); clear B2 HB; have B2 := n0_; have HB := n1_; clear n0_ n1_; clear hb; have B3 := Aside0.mk hbox; clear hbox hg) | ((with_reducible refine gate_dst (N := 4) rfl ?_); refine box_event ?hg (N := 4) ?hd (cs := #[.bool false]) (t := 4) ?hr ?_; (case hd => rfl); (case hg => rfl); (case hr => first | (go_simp; done) | (go_simp; rfl)); intro g4 hg w3 hbox hb; have G4 := Aside0.mk ((by rw [hg]; exact HB.out.size : w.heap.size ≤ g4)); have N2_4 := Aside0.mk (by rw [hg]; have := blk_lt B2.out; omega : g2 ≠ g4); have N4_2 := Aside0.mk (N2_4.out).symm; have N3_4 := Aside0.mk (by rw [hg]; have := blk_lt B3.out; omega : g3 ≠ g4); have N4_3 := Aside0.mk (N3_4.out).symm; have n0_ := Aside0.mk (blk_below B2.out hb); have n1_ := Aside0.mk (blk_below B3.out hb); have n2_ := Aside0.mk (below_step HB.out hb); clear B2 B3 HB; have B2 := n0_; have B3 := n1_; have HB := n2_; clear n0_ n1_ n2_; clear hb; have B4 := Aside0.mk hbox; clear hbox hg; have hc20 : w3.cell? ⟨g2, 0, none⟩ = some (.int .i64 a) := (blk_cell B2.out 0).trans rfl; have hc21 : w3.cell? ⟨g2, 1, none⟩ = some (.int .i64 b) := (blk_cell B2.out 1).trans rfl; have hc22 : w3.cell? ⟨g2, 2, none⟩ = some (.slice A l.length c) := (blk_cell B2.out 2).trans rfl; have hf20 := blk_frozen B2.out 0; have hf21 := blk_frozen B2.out 1; have hf22 := blk_frozen B2.out 2) | ((with_reducible refine gate_callee (f := 13) rfl ?_); refine goesL_ (some 17) rfl rfl Try.func13 (by kernel_rfl) rfl #[] rfl mapx ?_; (refine (barscanlaw31_examples.calls k r _ HX.out).mono ?_); rintro e w4 ⟨rfl, hb⟩; refine ⟨_, rfl, ?_⟩; have n0_ := Aside0.mk (blk_below B2.out hb); have n1_ := Aside0.mk (blk_below B3.out hb); have n2_ := Aside0.mk (blk_below B4.out hb); have n3_ := Aside0.mk (below_step HB.out hb); clear B2 B3 B4 HB; have B2 := n0_; have B3 := n1_; have B4 := n2_; have HB := n3_; clear n0_ n1_ n2_ n3_; clear hb; have hc40 : w4.cell? ⟨g4, 0, none⟩ = some (.bool false) := (blk_cell B4.out 0).trans rfl; have hf40 := blk_frozen B4.out 0))
  refine ⟨_, barscanlaw31_RasterBounds.results_bool rfl _ _ g4 r rfl ((blk_cell (blk_put B4.out 0 _ rfl) 0).trans rfl), rfl, below_set HB.out G4.out⟩
 ·rw [if_neg hl] at h
  have hl2 : (l.length : Int) ≤ 40000 := by omega
  unfold barscanlaw31_RasterBounds.core at h
  obtain ⟨⟨t1, t2, t3, t4, t5⟩, T00, h1⟩ := Option.bind_eq_some_iff.mp h
  obtain ⟨⟨u1, u2, u3, u4, u5⟩, U00, h2⟩ := Option.bind_eq_some_iff.mp h1
  obtain ⟨d, D00, h3⟩ := Option.bind_eq_some_iff.mp h2
  obtain ⟨e0, E00, h4⟩ := Option.bind_eq_some_iff.mp h3
  clear h h1 h2 h3
  have h := h4
  clear h4
  by_cases ht : (t1, t2, t3, t4, t5) = (u1, u2, u3, u4, u5)
  case neg => rw [if_neg ht] at h; cases h
  rw [if_pos ht] at h
  by_cases hd : d.map (fun p => (p.f0, p.f1)) = (if (e0 == 0) = true then XPixels.dots a l l.length else [])
  case neg => rw [if_neg hd] at h; cases h
  rw [if_pos hd] at h
  by_cases hm : 0 ≤ most ∧ most ≤ 65535
  case neg => rw [if_neg hm] at h; cases h
  rw [if_pos hm] at h
  simp only [Prod.mk.injEq] at ht
  obtain ⟨rfl, rfl, rfl, rfl, rfl⟩ := ht
  have T0 := Aside0.mk T00
  have U0 := Aside0.mk U00
  have D0 := Aside0.mk D00
  have E0 := Aside0.mk E00
  have HD := Aside0.mk hd
  have HM := Aside0.mk hm
  have HX := Aside0.mk h
  clear T00 U00 D00 E00 hd hm h
  refine (callsIn_wide (n := 5)).1 ?_
  refine callsIn_of_wp_marks Try.func4 rfl trivial ?_ rfl
  refine wpIn_mono (Q := noPanic _) ?_ noPanic_le
  refine wpIn_wide.2 ?_
  simp only [Try.ntmps4, List.size_toArray, List.length_cons, List.length_nil, Nat.reduceAdd, Nat.reduceSub, Array.replicate_succ, Array.replicate_zero, List.push_toArray, List.append_toArray, List.nil_append, List.cons_append]
  go_wp2_with (first | ((with_reducible refine gate_dst (N := 2) rfl ?_); refine box_event ?hg (N := 2) ?hd (cs := #[.int .i64 a, .int .i64 b, .slice A l.length c]) (t := 24) ?hr ?_; (case hd => rfl); (case hg => rfl); (case hr => first | (go_simp; done) | (go_simp; rfl)); intro g2 hg w1 hbox hb; have G2 := Aside0.mk ((by rw [hg]; exact HB.out.size : w.heap.size ≤ g2)); have n0_ := Aside0.mk (below_step HB.out hb); clear HB; have HB := n0_; clear n0_; clear hb; have B2 := Aside0.mk hbox; clear hbox hg) | ((with_reducible refine gate_dst (N := 3) rfl ?_); refine box_event ?hg (N := 3) ?hd (cs := #[.int .u16 most]) (t := 34) ?hr ?_; (case hd => rfl); (case hg => rfl); (case hr => first | (go_simp; done) | (go_simp; rfl)); intro g3 hg w2 hbox hb; have G3 := Aside0.mk ((by rw [hg]; exact HB.out.size : w.heap.size ≤ g3)); have N2_3 := Aside0.mk (by rw [hg]; have := blk_lt B2.out; omega : g2 ≠ g3); have N3_2 := Aside0.mk (N2_3.out).symm; have n0_ := Aside0.mk (blk_below B2.out hb); have n1_ := Aside0.mk (below_step HB.out hb); clear B2 HB; have B2 := n0_; have HB := n1_; clear n0_ n1_; clear hb; have B3 := Aside0.mk hbox; clear hbox hg) | ((with_reducible refine gate_dst (N := 4) rfl ?_); refine box_event ?hg (N := 4) ?hd (cs := #[.bool false]) (t := 4) ?hr ?_; (case hd => rfl); (case hg => rfl); (case hr => first | (go_simp; done) | (go_simp; rfl)); intro g4 hg w3 hbox hb; have G4 := Aside0.mk ((by rw [hg]; exact HB.out.size : w.heap.size ≤ g4)); have N2_4 := Aside0.mk (by rw [hg]; have := blk_lt B2.out; omega : g2 ≠ g4); have N4_2 := Aside0.mk (N2_4.out).symm; have N3_4 := Aside0.mk (by rw [hg]; have := blk_lt B3.out; omega : g3 ≠ g4); have N4_3 := Aside0.mk (N3_4.out).symm; have n0_ := Aside0.mk (blk_below B2.out hb); have n1_ := Aside0.mk (blk_below B3.out hb); have n2_ := Aside0.mk (below_step HB.out hb); clear B2 B3 HB; have B2 := n0_; have B3 := n1_; have HB := n2_; clear n0_ n1_ n2_; clear hb; have B4 := Aside0.mk hbox; clear hbox hg; have hc20 : w3.cell? ⟨g2, 0, none⟩ = some (.int .i64 a) := (blk_cell B2.out 0).trans rfl; have hc21 : w3.cell? ⟨g2, 1, none⟩ = some (.int .i64 b) := (blk_cell B2.out 1).trans rfl; have hc22 : w3.cell? ⟨g2, 2, none⟩ = some (.slice A l.length c) := (blk_cell B2.out 2).trans rfl; have hf20 := blk_frozen B2.out 0; have hf21 := blk_frozen B2.out 1; have hf22 := blk_frozen B2.out 2) | ((with_reducible refine gate_callee (f := 17) rfl ?_); refine goesL_ (some 20) rfl rfl Try.func17 (by kernel_rfl) rfl #[.agg #[.int .i64 a, .int .i64 b, .slice A l.length c]] rfl mapx ?_; (refine (raster_Bounds.calls a b _ _ l t1 t2 t3 t4 t5 _ ?side1 ?side2 T0.out).mono ?_); (case side1 => exact (Kd.C_below HR0.out HB.out)); (case side2 => exact HC0.out); rintro e w4 ⟨rfl, hb⟩; refine ⟨_, rfl, ?_⟩; have n0_ := Aside0.mk (blk_below B2.out hb); have n1_ := Aside0.mk (blk_below B3.out hb); have n2_ := Aside0.mk (blk_below B4.out hb); have n3_ := Aside0.mk (below_step HB.out hb); clear B2 B3 B4 HB; have B2 := n0_; have B3 := n1_; have B4 := n2_; have HB := n3_; clear n0_ n1_ n2_ n3_; clear hb) | ((with_reducible refine gate_dst (N := 5) rfl ?_); refine box_event ?hg (N := 5) ?hd (cs := #[.int .i64 0, .int .i64 0, .int .i64 0, .int .i64 0]) (t := 26) ?hr ?_; (case hd => rfl); (case hg => rfl); (case hr => first | (go_simp; done) | (go_simp; rfl)); intro g5 hg w5 hbox hb; have G5 := Aside0.mk ((by rw [hg]; exact HB.out.size : w.heap.size ≤ g5)); have N2_5 := Aside0.mk (by rw [hg]; have := blk_lt B2.out; omega : g2 ≠ g5); have N5_2 := Aside0.mk (N2_5.out).symm; have N3_5 := Aside0.mk (by rw [hg]; have := blk_lt B3.out; omega : g3 ≠ g5); have N5_3 := Aside0.mk (N3_5.out).symm; have N4_5 := Aside0.mk (by rw [hg]; have := blk_lt B4.out; omega : g4 ≠ g5); have N5_4 := Aside0.mk (N4_5.out).symm; have n0_ := Aside0.mk (blk_below B2.out hb); have n1_ := Aside0.mk (blk_below B3.out hb); have n2_ := Aside0.mk (blk_below B4.out hb); have n3_ := Aside0.mk (below_step HB.out hb); clear B2 B3 B4 HB; have B2 := n0_; have B3 := n1_; have B4 := n2_; have HB := n3_; clear n0_ n1_ n2_ n3_; clear hb; have B5 := Aside0.mk hbox; clear hbox hg; have hc50 : w5.cell? ⟨g5, 0, none⟩ = some (.int .i64 0) := (blk_cell B5.out 0).trans rfl; have hc51 : w5.cell? ⟨g5, 1, none⟩ = some (.int .i64 0) := (blk_cell B5.out 1).trans rfl; have hc52 : w5.cell? ⟨g5, 2, none⟩ = some (.int .i64 0) := (blk_cell B5.out 2).trans rfl; have hc53 : w5.cell? ⟨g5, 3, none⟩ = some (.int .i64 0) := (blk_cell B5.out 3).trans rfl; have hf50 := blk_frozen B5.out 0; have hf51 := blk_frozen B5.out 1; have hf52 := blk_frozen B5.out 2; have hf53 := blk_frozen B5.out 3; have hc20 : w5.cell? ⟨g2, 0, none⟩ = some (.int .i64 a) := (blk_cell B2.out 0).trans rfl; have hc21 : w5.cell? ⟨g2, 1, none⟩ = some (.int .i64 b) := (blk_cell B2.out 1).trans rfl; have hc22 : w5.cell? ⟨g2, 2, none⟩ = some (.slice A l.length c) := (blk_cell B2.out 2).trans rfl; have hf20 := blk_frozen B2.out 0; have hf21 := blk_frozen B2.out 1; have hf22 := blk_frozen B2.out 2; have hn2_5 := N2_5.out; have hn5_2 := N5_2.out) | ((with_reducible refine gate_callee (f := 18) rfl ?_); obtain ⟨w6, hw6⟩ : ∃ W_, ((((w5).setCell ⟨g5, 0, none⟩ (.int .i64 t1)).setCell ⟨g5, 1, none⟩ (.int .i64 t2)).setCell ⟨g5, 2, none⟩ (.int .i64 t3)).setCell ⟨g5, 3, none⟩ (.int .i64 t4) = W_ := ⟨_, rfl⟩; have nk_ : Aside0 (w6.heap[g5]? = some (.cells #[.int .i64 t1, .int .i64 t2, .int .i64 t3, .int .i64 t4] 26 (0, 0))) := ⟨by rw [← hw6]; exact blk_put (blk_put (blk_put (blk_put B5.out 0 _ rfl) 1 _ rfl) 2 _ rfl) 3 _ rfl⟩; have n2_ : Aside0 (w6.heap[g2]? = some (.cells #[.int .i64 a, .int .i64 b, .slice A l.length c] 24 (0, 0))) := ⟨by rw [← hw6]; exact blk_far (p := ⟨g5, 3, none⟩) (blk_far (p := ⟨g5, 2, none⟩) (blk_far (p := ⟨g5, 1, none⟩) (blk_far (p := ⟨g5, 0, none⟩) (B2.out) N2_5.out _) N2_5.out _) N2_5.out _) N2_5.out _⟩; have n3_ : Aside0 (w6.heap[g3]? = some (.cells #[.int .u16 most] 34 (0, 0))) := ⟨by rw [← hw6]; exact blk_far (p := ⟨g5, 3, none⟩) (blk_far (p := ⟨g5, 2, none⟩) (blk_far (p := ⟨g5, 1, none⟩) (blk_far (p := ⟨g5, 0, none⟩) (B3.out) N3_5.out _) N3_5.out _) N3_5.out _) N3_5.out _⟩; have n4_ : Aside0 (w6.heap[g4]? = some (.cells #[.bool false] 4 (0, 0))) := ⟨by rw [← hw6]; exact blk_far (p := ⟨g5, 3, none⟩) (blk_far (p := ⟨g5, 2, none⟩) (blk_far (p := ⟨g5, 1, none⟩) (blk_far (p := ⟨g5, 0, none⟩) (B4.out) N4_5.out _) N4_5.out _) N4_5.out _) N4_5.out _⟩; have nb_ : Aside0 (Below w.heap.size w w6) := ⟨by rw [← hw6]; exact below_set (below_set (below_set (below_set (HB.out) G5.out) G5.out) G5.out) G5.out⟩; rw [hw6]; clear hw6 HB B2 B3 B4 B5; have HB := nb_; have B5 := nk_; have B2 := n2_; have B3 := n3_; have B4 := n4_; clear nb_ nk_ n2_ n3_ n4_; refine goesL_ (some 25) rfl rfl Try.func18 (by kernel_rfl) rfl #[.agg #[.int .i64 a, .int .i64 b, .slice A l.length c]] rfl mapx ?_; (refine (barscanref31_Bounds.calls k a b _ _ l t1 t2 t3 t4 t5 _ ?side1 ?side2 U0.out).mono ?_); (case side1 => exact (Kd.C_below HR0.out HB.out)); (case side2 => exact HC0.out); rintro e w7 ⟨rfl, hb⟩; refine ⟨_, rfl, ?_⟩; have n0_ := Aside0.mk (blk_below B2.out hb); have n1_ := Aside0.mk (blk_below B3.out hb); have n2_ := Aside0.mk (blk_below B4.out hb); have n3_ := Aside0.mk (blk_below B5.out hb); have n4_ := Aside0.mk (below_step HB.out hb); clear B2 B3 B4 B5 HB; have B2 := n0_; have B3 := n1_; have B4 := n2_; have B5 := n3_; have HB := n4_; clear n0_ n1_ n2_ n3_ n4_; clear hb) | ((with_reducible refine gate_dst (N := 7) rfl ?_); refine box_event ?hg (N := 7) ?hd (cs := #[.int .i64 0, .int .i64 0, .int .i64 0, .int .i64 0]) (t := 26) ?hr ?_; (case hd => rfl); (case hg => rfl); (case hr => first | (go_simp; done) | (go_simp; rfl)); intro g7 hg w8 hbox hb; have G7 := Aside0.mk ((by rw [hg]; exact HB.out.size : w.heap.size ≤ g7)); have N2_7 := Aside0.mk (by rw [hg]; have := blk_lt B2.out; omega : g2 ≠ g7); have N7_2 := Aside0.mk (N2_7.out).symm; have N3_7 := Aside0.mk (by rw [hg]; have := blk_lt B3.out; omega : g3 ≠ g7); have N7_3 := Aside0.mk (N3_7.out).symm; have N4_7 := Aside0.mk (by rw [hg]; have := blk_lt B4.out; omega : g4 ≠ g7); have N7_4 := Aside0.mk (N4_7.out).symm; have N5_7 := Aside0.mk (by rw [hg]; have := blk_lt B5.out; omega : g5 ≠ g7); have N7_5 := Aside0.mk (N5_7.out).symm; have n0_ := Aside0.mk (blk_below B2.out hb); have n1_ := Aside0.mk (blk_below B3.out hb); have n2_ := Aside0.mk (blk_below B4.out hb); have n3_ := Aside0.mk (blk_below B5.out hb); have n4_ := Aside0.mk (below_step HB.out hb); clear B2 B3 B4 B5 HB; have B2 := n0_; have B3 := n1_; have B4 := n2_; have B5 := n3_; have HB := n4_; clear n0_ n1_ n2_ n3_ n4_; clear hb; have B7 := Aside0.mk hbox; clear hbox hg; have hc70 : w8.cell? ⟨g7, 0, none⟩ = some (.int .i64 0) := (blk_cell B7.out 0).trans rfl; have hc71 : w8.cell? ⟨g7, 1, none⟩ = some (.int .i64 0) := (blk_cell B7.out 1).trans rfl; have hc72 : w8.cell? ⟨g7, 2, none⟩ = some (.int .i64 0) := (blk_cell B7.out 2).trans rfl; have hc73 : w8.cell? ⟨g7, 3, none⟩ = some (.int .i64 0) := (blk_cell B7.out 3).trans rfl; have hf70 := blk_frozen B7.out 0; have hf71 := blk_frozen B7.out 1; have hf72 := blk_frozen B7.out 2; have hf73 := blk_frozen B7.out 3; have hc20 : w8.cell? ⟨g2, 0, none⟩ = some (.int .i64 a) := (blk_cell B2.out 0).trans rfl; have hc21 : w8.cell? ⟨g2, 1, none⟩ = some (.int .i64 b) := (blk_cell B2.out 1).trans rfl; have hc22 : w8.cell? ⟨g2, 2, none⟩ = some (.slice A l.length c) := (blk_cell B2.out 2).trans rfl; have hf20 := blk_frozen B2.out 0; have hf21 := blk_frozen B2.out 1; have hf22 := blk_frozen B2.out 2; have hn2_7 := N2_7.out; have hn7_2 := N7_2.out) | ((with_reducible refine gate_callee (f := 19) rfl ?_); obtain ⟨w9, hw9⟩ : ∃ W_, ((((w8).setCell ⟨g7, 0, none⟩ (.int .i64 t1)).setCell ⟨g7, 1, none⟩ (.int .i64 t2)).setCell ⟨g7, 2, none⟩ (.int .i64 t3)).setCell ⟨g7, 3, none⟩ (.int .i64 t4) = W_ := ⟨_, rfl⟩; have nk_ : Aside0 (w9.heap[g7]? = some (.cells #[.int .i64 t1, .int .i64 t2, .int .i64 t3, .int .i64 t4] 26 (0, 0))) := ⟨by rw [← hw9]; exact blk_put (blk_put (blk_put (blk_put B7.out 0 _ rfl) 1 _ rfl) 2 _ rfl) 3 _ rfl⟩; have n2_ : Aside0 (w9.heap[g2]? = some (.cells #[.int .i64 a, .int .i64 b, .slice A l.length c] 24 (0, 0))) := ⟨by rw [← hw9]; exact blk_far (p := ⟨g7, 3, none⟩) (blk_far (p := ⟨g7, 2, none⟩) (blk_far (p := ⟨g7, 1, none⟩) (blk_far (p := ⟨g7, 0, none⟩) (B2.out) N2_7.out _) N2_7.out _) N2_7.out _) N2_7.out _⟩; have n3_ : Aside0 (w9.heap[g3]? = some (.cells #[.int .u16 most] 34 (0, 0))) := ⟨by rw [← hw9]; exact blk_far (p := ⟨g7, 3, none⟩) (blk_far (p := ⟨g7, 2, none⟩) (blk_far (p := ⟨g7, 1, none⟩) (blk_far (p := ⟨g7, 0, none⟩) (B3.out) N3_7.out _) N3_7.out _) N3_7.out _) N3_7.out _⟩; have n4_ : Aside0 (w9.heap[g4]? = some (.cells #[.bool false] 4 (0, 0))) := ⟨by rw [← hw9]; exact blk_far (p := ⟨g7, 3, none⟩) (blk_far (p := ⟨g7, 2, none⟩) (blk_far (p := ⟨g7, 1, none⟩) (blk_far (p := ⟨g7, 0, none⟩) (B4.out) N4_7.out _) N4_7.out _) N4_7.out _) N4_7.out _⟩; have n5_ : Aside0 (w9.heap[g5]? = some (.cells #[.int .i64 t1, .int .i64 t2, .int .i64 t3, .int .i64 t4] 26 (0, 0))) := ⟨by rw [← hw9]; exact blk_far (p := ⟨g7, 3, none⟩) (blk_far (p := ⟨g7, 2, none⟩) (blk_far (p := ⟨g7, 1, none⟩) (blk_far (p := ⟨g7, 0, none⟩) (B5.out) N5_7.out _) N5_7.out _) N5_7.out _) N5_7.out _⟩; have nb_ : Aside0 (Below w.heap.size w w9) := ⟨by rw [← hw9]; exact below_set (below_set (below_set (below_set (HB.out) G7.out) G7.out) G7.out) G7.out⟩; rw [hw9]; clear hw9 HB B2 B3 B4 B5 B7; have HB := nb_; have B7 := nk_; have B2 := n2_; have B3 := n3_; have B4 := n4_; have B5 := n5_; clear nb_ nk_ n2_ n3_ n4_ n5_; refine goesL_ (some 29) rfl rfl Try.func19 (by kernel_rfl) rfl #[.agg #[.int .i64 a, .int .i64 b, .slice A l.length c]] rfl mapx ?_; (refine (pixels_calls e0 a b A c l.length _ (fun w1 hw1 => raster_Check.calls a b A c l e0 w1 (Kd.C_below HR0.out (below_then HB.out HB.out.size hw1)) HC0.out E0.out)).mono ?_); rintro e w10 ⟨gV, gM, rfl, hb, hbv, hbm, hv, hmm⟩; refine ⟨_, rfl, ?_⟩; have GV := Aside0.mk (by have := HB.out.size; omega : w.heap.size ≤ gV); have GM := Aside0.mk (by have := HB.out.size; omega : w.heap.size ≤ gM); have N2_V := Aside0.mk (by have := blk_lt B2.out; omega : g2 ≠ gV); have NV_2 := Aside0.mk (N2_V.out).symm; have N3_V := Aside0.mk (by have := blk_lt B3.out; omega : g3 ≠ gV); have NV_3 := Aside0.mk (N3_V.out).symm; have N4_V := Aside0.mk (by have := blk_lt B4.out; omega : g4 ≠ gV); have NV_4 := Aside0.mk (N4_V.out).symm; have N5_V := Aside0.mk (by have := blk_lt B5.out; omega : g5 ≠ gV); have NV_5 := Aside0.mk (N5_V.out).symm; have N7_V := Aside0.mk (by have := blk_lt B7.out; omega : g7 ≠ gV); have NV_7 := Aside0.mk (N7_V.out).symm; have N2_M := Aside0.mk (by have := blk_lt B2.out; omega : g2 ≠ gM); have NM_2 := Aside0.mk (N2_M.out).symm; have N3_M := Aside0.mk (by have := blk_lt B3.out; omega : g3 ≠ gM); have NM_3 := Aside0.mk (N3_M.out).symm; have N4_M := Aside0.mk (by have := blk_lt B4.out; omega : g4 ≠ gM); have NM_4 := Aside0.mk (N4_M.out).symm; have N5_M := Aside0.mk (by have := blk_lt B5.out; omega : g5 ≠ gM); have NM_5 := Aside0.mk (N5_M.out).symm; have N7_M := Aside0.mk (by have := blk_lt B7.out; omega : g7 ≠ gM); have NM_7 := Aside0.mk (N7_M.out).symm; have NV_M := Aside0.mk (blk_ne hv hmm (by decide)); have NM_V := Aside0.mk (NV_M.out).symm; have n0_ := Aside0.mk (blk_below B2.out hb); have n1_ := Aside0.mk (blk_below B3.out hb); have n2_ := Aside0.mk (blk_below B4.out hb); have n3_ := Aside0.mk (blk_below B5.out hb); have n4_ := Aside0.mk (blk_below B7.out hb); have n5_ := Aside0.mk (below_step HB.out hb); clear B2 B3 B4 B5 B7 HB; have B2 := n0_; have B3 := n1_; have B4 := n2_; have B5 := n3_; have B7 := n4_; have HB := n5_; clear n0_ n1_ n2_ n3_ n4_ n5_; clear hb; have BV := Aside0.mk hv; have BM := Aside0.mk hmm; clear hv hmm hbv hbm; have hc20 : w10.cell? ⟨g2, 0, none⟩ = some (.int .i64 a) := (blk_cell B2.out 0).trans rfl; have hc21 : w10.cell? ⟨g2, 1, none⟩ = some (.int .i64 b) := (blk_cell B2.out 1).trans rfl; have hc22 : w10.cell? ⟨g2, 2, none⟩ = some (.slice A l.length c) := (blk_cell B2.out 2).trans rfl; have hf20 := blk_frozen B2.out 0; have hf21 := blk_frozen B2.out 1; have hf22 := blk_frozen B2.out 2) | ((with_reducible refine gate_callee (f := 20) rfl ?_); refine goesL_ (some 31) rfl rfl Try.func20 (by kernel_rfl) rfl #[.agg #[.int .i64 a, .int .i64 b, .slice A l.length c]] rfl mapx ?_; (refine (barscanref31_Dots.calls k a b _ _ l d _ ?side1 ?side2 D0.out).mono ?_); (case side1 => exact (Kd.C_below HR0.out HB.out)); (case side2 => exact HC0.out); rintro e w11 ⟨vd, rfl, ho, hb⟩; refine ⟨_, rfl, ?_⟩; have hsz_ := HB.out.size; have n0_ := Aside0.mk (blk_below B2.out hb); have n1_ := Aside0.mk (blk_below B3.out hb); have n2_ := Aside0.mk (blk_below B4.out hb); have n3_ := Aside0.mk (blk_below B5.out hb); have n4_ := Aside0.mk (blk_below B7.out hb); have n5_ := Aside0.mk (blk_below BV.out hb); have n6_ := Aside0.mk (blk_below BM.out hb); have n7_ := Aside0.mk (below_step HB.out hb); clear B2 B3 B4 B5 B7 BV BM HB; have B2 := n0_; have B3 := n1_; have B4 := n2_; have B5 := n3_; have B7 := n4_; have BV := n5_; have BM := n6_; have HB := n7_; clear n0_ n1_ n2_ n3_ n4_ n5_ n6_ n7_; clear hb; obtain ⟨Ad, cd, ed⟩ := Kd.R_slice ho; subst ed; have HO : Aside0 (Kd.R k43 43 w11 w.heap.size (fun k_ => some k_ = (Value.slice Ad d.length cd).ownBlock) (.slice Ad d.length cd) d) := ⟨Kd.R_lower (Kd.R_flat barscanlaw31_RasterBounds.k43_flat ho (fun k hk _ => hk.symm)) (by assumption)⟩; clear ho) | ((with_reducible refine gate_dst (N := 10) rfl ?_); refine box_event ?hg (N := 10) ?hd (cs := #[.slice none 0 0]) (t := 40) ?hr ?_; (case hd => rfl); (case hg => rfl); (case hr => first | (go_simp; done) | (go_simp; rfl)); intro g10 hg w12 hbox hb; have G10 := Aside0.mk ((by rw [hg]; exact HB.out.size : w.heap.size ≤ g10)); have N2_10 := Aside0.mk (by rw [hg]; have := blk_lt B2.out; omega : g2 ≠ g10); have N10_2 := Aside0.mk (N2_10.out).symm; have N3_10 := Aside0.mk (by rw [hg]; have := blk_lt B3.out; omega : g3 ≠ g10); have N10_3 := Aside0.mk (N3_10.out).symm; have N4_10 := Aside0.mk (by rw [hg]; have := blk_lt B4.out; omega : g4 ≠ g10); have N10_4 := Aside0.mk (N4_10.out).symm; have N5_10 := Aside0.mk (by rw [hg]; have := blk_lt B5.out; omega : g5 ≠ g10); have N10_5 := Aside0.mk (N5_10.out).symm; have N7_10 := Aside0.mk (by rw [hg]; have := blk_lt B7.out; omega : g7 ≠ g10); have N10_7 := Aside0.mk (N7_10.out).symm; have NV_10 := Aside0.mk (by rw [hg]; have := blk_lt BV.out; omega : gV ≠ g10); have N10_V := Aside0.mk (NV_10.out).symm; have NM_10 := Aside0.mk (by rw [hg]; have := blk_lt BM.out; omega : gM ≠ g10); have N10_M := Aside0.mk (NM_10.out).symm; have n0_ := Aside0.mk (blk_below B2.out hb); have n1_ := Aside0.mk (blk_below B3.out hb); have n2_ := Aside0.mk (blk_below B4.out hb); have n3_ := Aside0.mk (blk_below B5.out hb); have n4_ := Aside0.mk (blk_below B7.out hb); have n5_ := Aside0.mk (blk_below BV.out hb); have n6_ := Aside0.mk (blk_below BM.out hb); have n7_ := Aside0.mk (Kd.R_below HO.out hb); have n8_ := Aside0.mk (below_step HB.out hb); clear B2 B3 B4 B5 B7 BV BM HO HB; have B2 := n0_; have B3 := n1_; have B4 := n2_; have B5 := n3_; have B7 := n4_; have BV := n5_; have BM := n6_; have HO := n7_; have HB := n8_; clear n0_ n1_ n2_ n3_ n4_ n5_ n6_ n7_ n8_; clear hb; have B10 := Aside0.mk hbox; clear hbox hg; have hc100 : w12.cell? ⟨g10, 0, none⟩ = some (.slice none 0 0) := (blk_cell B10.out 0).trans rfl; have hf100 := blk_frozen B10.out 0; have hc50 : w12.cell? ⟨g5, 0, none⟩ = some (.int .i64 t1) := (blk_cell B5.out 0).trans rfl; have hc51 : w12.cell? ⟨g5, 1, none⟩ = some (.int .i64 t2) := (blk_cell B5.out 1).trans rfl; have hc52 : w12.cell? ⟨g5, 2, none⟩ = some (.int .i64 t3) := (blk_cell B5.out 2).trans rfl; have hc53 : w12.cell? ⟨g5, 3, none⟩ = some (.int .i64 t4) := (blk_cell B5.out 3).trans rfl; have hf50 := blk_frozen B5.out 0; have hf51 := blk_frozen B5.out 1; have hf52 := blk_frozen B5.out 2; have hf53 := blk_frozen B5.out 3; have hc70 : w12.cell? ⟨g7, 0, none⟩ = some (.int .i64 t1) := (blk_cell B7.out 0).trans rfl; have hc71 : w12.cell? ⟨g7, 1, none⟩ = some (.int .i64 t2) := (blk_cell B7.out 1).trans rfl; have hc72 : w12.cell? ⟨g7, 2, none⟩ = some (.int .i64 t3) := (blk_cell B7.out 2).trans rfl; have hc73 : w12.cell? ⟨g7, 3, none⟩ = some (.int .i64 t4) := (blk_cell B7.out 3).trans rfl; have hf70 := blk_frozen B7.out 0; have hf71 := blk_frozen B7.out 1; have hf72 := blk_frozen B7.out 2; have hf73 := blk_frozen B7.out 3; have hn10_5 := N10_5.out; have hn5_10 := N5_10.out; have hn10_7 := N10_7.out; have hn7_10 := N7_10.out) | ((with_reducible refine gate_dst (N := 11) rfl ?_); obtain ⟨w13, hw13⟩ : ∃ W_, (w12).setCell ⟨g10, 0, none⟩ (.slice Ad d.length cd) = W_ := ⟨_, rfl⟩; have nk_ : Aside0 (w13.heap[g10]? = some (.cells #[.slice Ad d.length cd] 40 (0, 0))) := ⟨by rw [← hw13]; exact blk_put B10.out 0 _ rfl⟩; have n2_ : Aside0 (w13.heap[g2]? = some (.cells #[.int .i64 a, .int .i64 b, .slice A l.length c] 24 (0, 0))) := ⟨by rw [← hw13]; exact blk_far (p := ⟨g10, 0, none⟩) (B2.out) N2_10.out _⟩; have n3_ : Aside0 (w13.heap[g3]? = some (.cells #[.int .u16 most] 34 (0, 0))) := ⟨by rw [← hw13]; exact blk_far (p := ⟨g10, 0, none⟩) (B3.out) N3_10.out _⟩; have n4_ : Aside0 (w13.heap[g4]? = some (.cells #[.bool false] 4 (0, 0))) := ⟨by rw [← hw13]; exact blk_far (p := ⟨g10, 0, none⟩) (B4.out) N4_10.out _⟩; have n5_ : Aside0 (w13.heap[g5]? = some (.cells #[.int .i64 t1, .int .i64 t2, .int .i64 t3, .int .i64 t4] 26 (0, 0))) := ⟨by rw [← hw13]; exact blk_far (p := ⟨g10, 0, none⟩) (B5.out) N5_10.out _⟩; have n7_ : Aside0 (w13.heap[g7]? = some (.cells #[.int .i64 t1, .int .i64 t2, .int .i64 t3, .int .i64 t4] 26 (0, 0))) := ⟨by rw [← hw13]; exact blk_far (p := ⟨g10, 0, none⟩) (B7.out) N7_10.out _⟩; have nV_ : Aside0 (w13.heap[gV]? = some (.cells #[.bool (e0 == 0)] 4 (0, 0))) := ⟨by rw [← hw13]; exact blk_far (p := ⟨g10, 0, none⟩) (BV.out) NV_10.out _⟩; have nM_ : Aside0 (w13.heap[gM]? = some (.cells #[.int .i64 a, .int .i64 b, .slice A l.length c] 24 (0, 0))) := ⟨by rw [← hw13]; exact blk_far (p := ⟨g10, 0, none⟩) (BM.out) NM_10.out _⟩; have nb_ : Aside0 (Below w.heap.size w w13) := ⟨by rw [← hw13]; exact below_set (HB.out) G10.out⟩; have nrHO_ : Aside0 (Kd.R k43 43 w13 w.heap.size (fun k_ => some k_ = (Value.slice Ad d.length cd).ownBlock) (.slice Ad d.length cd) d) := ⟨by rw [← hw13]; exact Kd.R_step HO.out (fun k hk hlt => Below.heap_setCell _ ⟨g10, 0, none⟩ _ k (by obtain ⟨cs, hcs⟩ := Kd.R_typed HO.out k hk.symm; exact blk_ne hcs B10.out (by decide)))⟩; rw [hw13]; clear hw13 HB B2 B3 B4 B5 B7 BV BM B10 HO; have HB := nb_; have B10 := nk_; have B2 := n2_; have B3 := n3_; have B4 := n4_; have B5 := n5_; have B7 := n7_; have BV := nV_; have BM := nM_; have HO := nrHO_; clear nb_ nk_ n2_ n3_ n4_ n5_ n7_ nV_ nM_ nrHO_; refine box_event ?hg (N := 11) ?hd (cs := #[.int .i64 0]) (t := 3) ?hr ?_; (case hd => rfl); (case hg => rfl); (case hr => first | (go_simp; done) | (go_simp; rfl)); intro g11 hg w14 hbox hb; have G11 := Aside0.mk ((by rw [hg]; exact HB.out.size : w.heap.size ≤ g11)); have N2_11 := Aside0.mk (by rw [hg]; have := blk_lt B2.out; omega : g2 ≠ g11); have N11_2 := Aside0.mk (N2_11.out).symm; have N3_11 := Aside0.mk (by rw [hg]; have := blk_lt B3.out; omega : g3 ≠ g11); have N11_3 := Aside0.mk (N3_11.out).symm; have N4_11 := Aside0.mk (by rw [hg]; have := blk_lt B4.out; omega : g4 ≠ g11); have N11_4 := Aside0.mk (N4_11.out).symm; have N5_11 := Aside0.mk (by rw [hg]; have := blk_lt B5.out; omega : g5 ≠ g11); have N11_5 := Aside0.mk (N5_11.out).symm; have N7_11 := Aside0.mk (by rw [hg]; have := blk_lt B7.out; omega : g7 ≠ g11); have N11_7 := Aside0.mk (N7_11.out).symm; have NV_11 := Aside0.mk (by rw [hg]; have := blk_lt BV.out; omega : gV ≠ g11); have N11_V := Aside0.mk (NV_11.out).symm; have NM_11 := Aside0.mk (by rw [hg]; have := blk_lt BM.out; omega : gM ≠ g11); have N11_M := Aside0.mk (NM_11.out).symm; have N10_11 := Aside0.mk (by rw [hg]; have := blk_lt B10.out; omega : g10 ≠ g11); have N11_10 := Aside0.mk (N10_11.out).symm; have n0_ := Aside0.mk (blk_below B2.out hb); have n1_ := Aside0.mk (blk_below B3.out hb); have n2_ := Aside0.mk (blk_below B4.out hb); have n3_ := Aside0.mk (blk_below B5.out hb); have n4_ := Aside0.mk (blk_below B7.out hb); have n5_ := Aside0.mk (blk_below BV.out hb); have n6_ := Aside0.mk (blk_below BM.out hb); have n7_ := Aside0.mk (blk_below B10.out hb); have n8_ := Aside0.mk (Kd.R_below HO.out hb); have n9_ := Aside0.mk (below_step HB.out hb); clear B2 B3 B4 B5 B7 BV BM B10 HO HB; have B2 := n0_; have B3 := n1_; have B4 := n2_; have B5 := n3_; have B7 := n4_; have BV := n5_; have BM := n6_; have B10 := n7_; have HO := n8_; have HB := n9_; clear n0_ n1_ n2_ n3_ n4_ n5_ n6_ n7_ n8_ n9_; clear hb; have B11 := Aside0.mk hbox; clear hbox hg; have hc110 : w14.cell? ⟨g11, 0, none⟩ = some (.int .i64 0) := (blk_cell B11.out 0).trans rfl; have hf110 := blk_frozen B11.out 0))
  obtain ⟨w15, hw15⟩ : ∃ W_, (w14).setCell ⟨g11, 0, none⟩ (.int .i64 0) = W_ := ⟨_, rfl⟩
  have nk_ : Aside0 (w15.heap[g11]? = some (.cells #[.int .i64 0] 3 (0, 0))) := ⟨by rw [← hw15]; exact blk_put B11.out 0 _ rfl⟩
  have n2_ : Aside0 (w15.heap[g2]? = some (.cells #[.int .i64 a, .int .i64 b, .slice A l.length c] 24 (0, 0))) := ⟨by rw [← hw15]; exact blk_far (p := ⟨g11, 0, none⟩) (B2.out) N2_11.out _⟩
  have n3_ : Aside0 (w15.heap[g3]? = some (.cells #[.int .u16 most] 34 (0, 0))) := ⟨by rw [← hw15]; exact blk_far (p := ⟨g11, 0, none⟩) (B3.out) N3_11.out _⟩
  have n4_ : Aside0 (w15.heap[g4]? = some (.cells #[.bool false] 4 (0, 0))) := ⟨by rw [← hw15]; exact blk_far (p := ⟨g11, 0, none⟩) (B4.out) N4_11.out _⟩
  have n5_ : Aside0 (w15.heap[g5]? = some (.cells #[.int .i64 t1, .int .i64 t2, .int .i64 t3, .int .i64 t4] 26 (0, 0))) := ⟨by rw [← hw15]; exact blk_far (p := ⟨g11, 0, none⟩) (B5.out) N5_11.out _⟩
  have n7_ : Aside0 (w15.heap[g7]? = some (.cells #[.int .i64 t1, .int .i64 t2, .int .i64 t3, .int .i64 t4] 26 (0, 0))) := ⟨by rw [← hw15]; exact blk_far (p := ⟨g11, 0, none⟩) (B7.out) N7_11.out _⟩
  have nV_ : Aside0 (w15.heap[gV]? = some (.cells #[.bool (e0 == 0)] 4 (0, 0))) := ⟨by rw [← hw15]; exact blk_far (p := ⟨g11, 0, none⟩) (BV.out) NV_11.out _⟩
  have nM_ : Aside0 (w15.heap[gM]? = some (.cells #[.int .i64 a, .int .i64 b, .slice A l.length c] 24 (0, 0))) := ⟨by rw [← hw15]; exact blk_far (p := ⟨g11, 0, none⟩) (BM.out) NM_11.out _⟩
  have n10_ : Aside0 (w15.heap[g10]? = some (.cells #[.slice Ad d.length cd] 40 (0, 0))) := ⟨by rw [← hw15]; exact blk_far (p := ⟨g11, 0, none⟩) (B10.out) N10_11.out _⟩
  have nb_ : Aside0 (Below w.heap.size w w15) := ⟨by rw [← hw15]; exact below_set (HB.out) G11.out⟩
  have nrHO_ : Aside0 (Kd.R k43 43 w15 w.heap.size (fun k_ => some k_ = (Value.slice Ad d.length cd).ownBlock) (.slice Ad d.length cd) d) := ⟨by rw [← hw15]; exact Kd.R_step HO.out (fun k hk hlt => Below.heap_setCell _ ⟨g11, 0, none⟩ _ k (by obtain ⟨cs, hcs⟩ := Kd.R_typed HO.out k hk.symm; exact blk_ne hcs B11.out (by decide)))⟩
  rw [hw15]
  clear hw15 HB B2 B3 B4 B5 B7 BV BM B10 B11 HO
  have HB := nb_; have B11 := nk_; have B2 := n2_; have B3 := n3_; have B4 := n4_; have B5 := n5_; have B7 := n7_; have BV := nV_; have BM := nM_; have B10 := n10_; have HO := nrHO_
  clear nb_ nk_ n2_ n3_ n4_ n5_ n7_ nV_ nM_ n10_ nrHO_
  have HDL : Aside0 ((if (e0 == 0) = true then XPixels.dots a l l.length else []).length = d.length) := ⟨by rw [← HD.out, List.length_map]⟩
  have hsv := blk_lt BV.out
  have hsm := blk_lt BM.out
  have hs3 := blk_lt B3.out; have hs4 := blk_lt B4.out; have hs10 := blk_lt B10.out; have hs11 := blk_lt B11.out
  have hwz := HB.out.size
  have HA : Aside0 ((e0 == 0) = true → 1 ≤ a ∧ a ≤ 4096) := ⟨fun h0 => by have e := E0.out; obtain rfl : e0 = 0 := (by simpa using h0); exact ⟨(raster_Check.ok e).1, (raster_Check.ok e).2.1⟩⟩
  have HDS : Aside0 (d.length ≤ 40000) := ⟨by rw [← HDL.out]; have := dots_length a l l.length; split <;> simp <;> omega⟩
  have hlenl : l.length ≤ 140737488351232 := by omega
  refine (wpIn_wide (n := 5)).1 ?_
  refine wpIn_rangeFunc_ownH rfl (by decide) (gf := 49) (lb := #[.pointer (some ⟨gV, 0, none⟩), .pointer (some ⟨gM, 0, none⟩)]) rfl trivial (enters_of Try.func49 (by kernel_rfl) rfl)
   (pixels_stops 4 gV gM (e0 == 0) a b A c l HA.out hlenl w HR0.out w15 HB.out BV.out BM.out) PK.trans (pk_putObj hwz hsv hsm) (Below.refl _ _) (fun _ => rfl)
   (fun pre W => barscanlaw31_RasterBounds.J w w15.heap.size g3 g4 g10 g11 most Ad cd d (pre.length : Int) W ∧ (pre.length : Int) ≤ most)
   (barscanlaw31_RasterBounds.Jx w w15.heap.size g3 g4 g10 g11 most Ad cd d)
   ?hI (fun c => barscanlaw31_RasterBounds.Jx_own c hwz) ?h0
   (fun x a' W => ∃ Bx, w15.heap.size ≤ Bx ∧ W.heap[Bx]? = some (.cells #[.int .i64 x.1, .int .i64 x.2] 43 (0, 0)) ∧ a' = { tmps := #[Value.agg #[Value.int IntKind.i64 a, Value.int IntKind.i64 b, Value.slice A l.length c], Value.int IntKind.u16 most, Value.pointer (some { block := g2, off := 0 }), Value.pointer (some { block := g3, off := 0 }), Value.pointer (some { block := g4, off := 0 }), Value.pointer (some { block := g5, off := 0 }), Value.bool t5, Value.pointer (some { block := g7, off := 0 }), Value.bool t5, Value.func (Fn.func 49) #[] #[Value.pointer (some { block := gV, off := 0 }), Value.pointer (some { block := gM, off := 0 })], Value.pointer (some { block := g10, off := 0 }), Value.pointer (some { block := g11, off := 0 }), Value.pointer (some ⟨Bx, 0, none⟩), Value.pointer (some { block := g2, off := 2 }), Value.slice A l.length c, Value.int IntKind.i64 (l.length : Int), Value.bool false, undef, Value.tuple #[Value.agg #[Value.int IntKind.i64 t1, Value.int IntKind.i64 t2, Value.int IntKind.i64 t3, Value.int IntKind.i64 t4], Value.bool t5], Value.agg #[Value.int IntKind.i64 a, Value.int IntKind.i64 b, Value.slice A l.length c], Value.tuple #[Value.agg #[Value.int IntKind.i64 t1, Value.int IntKind.i64 t2, Value.int IntKind.i64 t3, Value.int IntKind.i64 t4], Value.bool t5], Value.agg #[Value.int IntKind.i64 t1, Value.int IntKind.i64 t2, Value.int IntKind.i64 t3, Value.int IntKind.i64 t4], Value.bool t5, Value.tuple #[Value.agg #[Value.int IntKind.i64 t1, Value.int IntKind.i64 t2, Value.int IntKind.i64 t3, Value.int IntKind.i64 t4], Value.bool t5], Value.agg #[Value.int IntKind.i64 a, Value.int IntKind.i64 b, Value.slice A l.length c], Value.tuple #[Value.agg #[Value.int IntKind.i64 t1, Value.int IntKind.i64 t2, Value.int IntKind.i64 t3, Value.int IntKind.i64 t4], Value.bool t5], Value.agg #[Value.int IntKind.i64 t1, Value.int IntKind.i64 t2, Value.int IntKind.i64 t3, Value.int IntKind.i64 t4], Value.bool t5, Value.agg #[Value.int IntKind.i64 a, Value.int IntKind.i64 b, Value.slice A l.length c], Value.func (Fn.func 49) #[] #[Value.pointer (some { block := gV, off := 0 }), Value.pointer (some { block := gM, off := 0 })], Value.agg #[Value.int IntKind.i64 a, Value.int IntKind.i64 b, Value.slice A l.length c], Value.slice Ad d.length cd, Value.agg #[Value.int IntKind.i64 t1, Value.int IntKind.i64 t2, Value.int IntKind.i64 t3, Value.int IntKind.i64 t4], Value.agg #[Value.int IntKind.i64 t1, Value.int IntKind.i64 t2, Value.int IntKind.i64 t3, Value.int IntKind.i64 t4], Value.bool false, Value.bool false, Value.bool t5, Value.bool t5, Value.bool false, Value.bool false, Value.bool false, Value.func (Fn.func 49) #[] #[Value.pointer (some { block := gV, off := 0 }), Value.pointer (some { block := gM, off := 0 })], Value.bool false, Value.bool false, Value.func (Fn.func 49) #[] #[Value.pointer (some { block := gV, off := 0 }), Value.pointer (some { block := gM, off := 0 })], Value.agg #[Value.int IntKind.i64 x.1, Value.int IntKind.i64 x.2], undef, undef, undef, undef, undef, undef, undef, undef, undef, undef, undef, undef, undef, undef, undef, undef, undef, undef, undef, undef, undef, undef, undef, undef, undef, undef, undef, undef, undef], defers := [] })
   (fun x a' _ X Y row hs hg hr => by obtain ⟨Bx, h1, h2, h3⟩ := hs; exact ⟨Bx, h1, cells_own Bx 43 (fun (_ : Unit) => #[Value.int .i64 x.1, Value.int .i64 x.2]) () X Y row h2 hg (fun r e => (hr r e).2), h3⟩)
   ?assign ?body ?done ?stop
  case hI => exact OwnFrom.and (barscanlaw31_RasterBounds.J_own (fun s : List (Int × Int) => (s.length : Int)) hwz) (fun _ _ _ _ hs _ _ => hs)
  case h0 => exact ⟨⟨⟨B3.out, B4.out, B10.out, B11.out, HO.out⟩, HB.out, Nat.le_refl _⟩, HM.out.1⟩
  case assign =>
   rintro l' pre x W K ⟨⟨⟨y3, y4, y10, y11, yd⟩, hB1, hle⟩, hle2⟩ hK
   have K1 := Aside0.mk hK
   have Y3 := Aside0.mk y3
   have Y4 := Aside0.mk y4
   have Y10 := Aside0.mk y10
   have Y11 := Aside0.mk y11
   have Yd := Aside0.mk yd
   have HB1 := Aside0.mk hB1
   clear hK y3 y4 y10 y11 yd hB1
   gi_wp2
   refine K1.out _ _ ((KeepsOthers.alloc _ _).from _) ⟨(Below.refl _ W).alloc HB1.out.size _, ?_, ?_⟩ ⟨⟨⟨blk_alloc Y3.out _, blk_alloc Y4.out _, blk_alloc Y10.out _, blk_alloc Y11.out _, Kd.R_alloc Yd.out _⟩, HB1.out.alloc HB1.out.size _, by simp; omega⟩, hle2⟩ ⟨W.heap.size, hle, blk_new _ _, rfl⟩
   ·exact Below.heap_alloc W _ gV (by omega)
   ·exact Below.heap_alloc W _ gM (by omega)
  case body =>
   rintro l' pre x a' W hl' ⟨rr, hrr⟩ ⟨⟨⟨y3, y4, y10, y11, yd⟩, hB1, hle⟩, hle2⟩ ⟨Bx, hBx, bX, rfl⟩ hlt
   have Y3 := Aside0.mk y3
   have Y4 := Aside0.mk y4
   have Y10 := Aside0.mk y10
   have Y11 := Aside0.mk y11
   have Yd := Aside0.mk yd
   have HB1 := Aside0.mk hB1
   have HLE := Aside0.mk hle
   have HHR := Aside0.mk hrr
   have hn1 : pre.length < d.length := by rw [← HDL.out]; exact hlt
   obtain ⟨X1, hX1⟩ : ∃ z : Int, x.1 = z := ⟨_, rfl⟩
   obtain ⟨X2, hX2⟩ : ∃ z : Int, x.2 = z := ⟨_, rfl⟩
   rw [hX1, hX2] at bX
   rw [hX1, hX2]
   obtain ⟨n, hnn⟩ : ∃ n : Int, (pre.length : Int) = n := ⟨_, rfl⟩
   have hNP := fun hh => barscanlaw31_RasterBounds.not_prefix (x := x) hn1 hh
   rw [hnn] at y11 hle2 hNP
   rw [hX1, hX2] at hNP
   have BX := Aside0.mk bX
   have hn0 : 0 ≤ n := by omega
   have hn2 : n < (d.length : Int) := by omega
   have hn3 : n ≤ 40000 := by have := HDS.out; omega
   obtain ⟨ad, ead, hx0, hx1⟩ := at_T43 (Kd.R_reads' yd).2.2 n hn0 hn2
   subst ead
   obtain ⟨R0, hR0⟩ : ∃ z : Int, (rd_T43 d n).f0 = z := ⟨_, rfl⟩
   obtain ⟨R1, hR1⟩ : ∃ z : Int, (rd_T43 d n).f1 = z := ⟨_, rfl⟩
   rw [hR0] at hx0; rw [hR1] at hx1; rw [hR0, hR1] at hNP
   have hc11 : W.cell? ⟨g11, 0, none⟩ = some (.int .i64 n) := (blk_cell y11 0).trans rfl
   have hc10 : W.cell? ⟨g10, 0, none⟩ = some (.slice (some ad) d.length cd) := (blk_cell y10 0).trans rfl
   have hc3 : W.cell? ⟨g3, 0, none⟩ = some (.int .u16 most) := (blk_cell y3 0).trans rfl
   have hc4 : W.cell? ⟨g4, 0, none⟩ = some (.bool false) := (blk_cell y4 0).trans rfl
   have hcb0 : W.cell? ⟨Bx, 0, none⟩ = some (.int .i64 X1) := (blk_cell bX 0).trans rfl
   have hcb1 : W.cell? ⟨Bx, 1, none⟩ = some (.int .i64 X2) := (blk_cell bX 1).trans rfl
   have Yn := Aside0.mk y11
   have hge : (n ≥ (d.length : Int)) = False := eq_false (by omega)
   have hge2 : ((d.length : Int) ≤ n) = False := eq_false (by omega)
   have pI := eq_true hn0
   have qI := eq_true hn2
   have HN := Aside0.mk (And.intro hn0 (And.intro hn2 (And.intro hn3 hle2)))
   have HNN := Aside0.mk hnn
   have HNP := Aside0.mk hNP
   clear y3 y4 y10 y11 yd hB1 hle hrr bX hNP hn0 hn2 hn3 hnn hn1 hlt hle2
   by_cases hq : X1 = R0 ∧ X2 = R1
   ·obtain ⟨rfl, rfl⟩ := hq
    gi_wp2
    refine startIn_ (m := 12) l' 3 (by kernel_rfl) (fun ⟨_, _, h⟩ => h) (S := fun w' => w'.cell? ⟨g11, 0, none⟩ = some (.int .i64 n) ∧ w'.cell? ⟨g10, 0, none⟩ = some (.slice (some ad) d.length cd) ∧ w'.cell? ⟨Bx, 0, none⟩ = some (.int .i64 X1) ∧ w'.cell? ⟨Bx, 1, none⟩ = some (.int .i64 X2) ∧ w'.cell? (ad.add (n.toNat * 2)) = some (.int .i64 X1) ∧ w'.cell? ⟨(ad.add (n.toNat * 2)).block, (ad.add (n.toNat * 2)).off + 1, none⟩ = some (.int .i64 X2)) (ds := []) (bA 12 0) (by kernel_rfl) rfl rfl ⟨hc11, hc10, hcb0, hcb1, hx0, hx1⟩ (fun hHeld => ?_)
    refine take_ (i := 0) (N := some 46) (v := ?_) (a' := ?_) (bA 12 1) rfl rfl (by kernel_rfl) (fun _ _ _ h => h) (Or.inl ⟨by rfl, ?_⟩) hHeld ?_ ?_
    rotate_left
    ·rintro w' ⟨s0, s1, s2, s3, s4, s5⟩
     go_simp
     with_reducible rfl
    rotate_left
    ·simp only [Act.put, List.setIfInBounds_toArray, List.set_cons_zero, List.set_cons_succ, i64_w, i32_w]
     rfl
    refine take_ (i := 1) (N := some 47) (v := ?_) (a' := ?_) (bA 12 3) rfl rfl (by kernel_rfl) (fun _ _ _ h => h) (Or.inl ⟨by rfl, ?_⟩) hHeld ?_ ?_
    rotate_left
    ·rintro w' ⟨s0, s1, s2, s3, s4, s5⟩
     go_simp
     with_reducible rfl
    rotate_left
    ·simp only [Act.put, List.setIfInBounds_toArray, List.set_cons_zero, List.set_cons_succ, i64_w, i32_w]
     rfl
    refine pure_ (i := 2) (N := some 48) (v := ?_) (a' := ?_) (bA 12 7) rfl rfl (by kernel_rfl) (fun _ _ _ h => h) (Or.inl ⟨by rfl, ?_⟩) ?_ ?_
    rotate_left
    ·intro w'
     go_simp
     with_reducible rfl
    rotate_left
    ·simp only [Act.put, List.setIfInBounds_toArray, List.set_cons_zero, List.set_cons_succ, i64_w, i32_w]
     rfl
    refine pure_ (i := 3) (N := some 49) (v := ?_) (a' := ?_) (bA 12 15) rfl rfl (by kernel_rfl) (fun _ _ _ h => h) (Or.inl ⟨by rfl, ?_⟩) ?_ ?_
    rotate_left
    ·intro w'
     go_simp
     with_reducible rfl
    rotate_left
    ·simp only [Act.put, List.setIfInBounds_toArray, List.set_cons_zero, List.set_cons_succ, i64_w, i32_w]
     rfl
    refine pure_ (i := 4) (N := some 50) (v := ?_) (a' := ?_) (bA 12 31) rfl rfl (by kernel_rfl) (fun _ _ _ h => h) (Or.inl ⟨by rfl, ?_⟩) ?_ ?_
    rotate_left
    ·intro w'
     go_simp
     with_reducible rfl
    rotate_left
    ·simp only [Act.put, List.setIfInBounds_toArray, List.set_cons_zero, List.set_cons_succ, i64_w, i32_w]
     rfl
    refine take_ (i := 5) (N := some 51) (v := ?_) (a' := ?_) (bA 12 63) rfl rfl (by kernel_rfl) (fun _ _ _ h => h) (Or.inl ⟨by rfl, ?_⟩) hHeld ?_ ?_
    rotate_left
    ·rintro w' ⟨s0, s1, s2, s3, s4, s5⟩
     go_simp
     with_reducible rfl
    rotate_left
    ·simp only [Act.put, List.setIfInBounds_toArray, List.set_cons_zero, List.set_cons_succ, i64_w, i32_w]
     rfl
    refine take_ (i := 6) (N := some 52) (v := ?_) (a' := ?_) (bA 12 127) rfl rfl (by kernel_rfl) (fun _ _ _ h => h) (Or.inl ⟨by rfl, ?_⟩) hHeld ?_ ?_
    rotate_left
    ·rintro w' ⟨s0, s1, s2, s3, s4, s5⟩
     go_simp
     with_reducible rfl
    rotate_left
    ·simp only [Act.put, List.setIfInBounds_toArray, List.set_cons_zero, List.set_cons_succ, i64_w, i32_w]
     rfl
    refine take_ (i := 7) (N := some 53) (v := ?_) (a' := ?_) (bA 12 255) rfl rfl (by kernel_rfl) (fun _ _ _ h => h) (Or.inl ⟨by rfl, ?_⟩) hHeld ?_ ?_
    rotate_left
    ·rintro w' ⟨s0, s1, s2, s3, s4, s5⟩
     go_simp
     with_reducible rfl
    rotate_left
    ·simp only [Act.put, List.setIfInBounds_toArray, List.set_cons_zero, List.set_cons_succ, i64_w, i32_w]
     rfl
    refine pure_ (i := 8) (N := some 54) (v := ?_) (a' := ?_) (bA 12 511) rfl rfl (by kernel_rfl) (fun _ _ _ h => h) (Or.inl ⟨by rfl, ?_⟩) ?_ ?_
    rotate_left
    ·intro w'
     go_simp
     with_reducible rfl
    rotate_left
    ·simp only [Act.put, List.setIfInBounds_toArray, List.set_cons_zero, List.set_cons_succ, i64_w, i32_w]
     rfl
    refine take_ (i := 9) (N := some 55) (v := ?_) (a' := ?_) (bA 12 1023) rfl rfl (by kernel_rfl) (fun _ _ _ h => h) (Or.inl ⟨by rfl, ?_⟩) hHeld ?_ ?_
    rotate_left
    ·rintro w' ⟨s0, s1, s2, s3, s4, s5⟩
     go_simp
     with_reducible rfl
    rotate_left
    ·simp only [Act.put, List.setIfInBounds_toArray, List.set_cons_zero, List.set_cons_succ, i64_w, i32_w]
     rfl
    refine pure_ (i := 10) (N := some 56) (v := ?_) (a' := ?_) (bA 12 2047) rfl rfl (by kernel_rfl) (fun _ _ _ h => h) (Or.inl ⟨by rfl, ?_⟩) ?_ ?_
    rotate_left
    ·intro w'
     go_simp
     with_reducible rfl
    rotate_left
    ·simp only [Act.put, List.setIfInBounds_toArray, List.set_cons_zero, List.set_cons_succ, i64_w, i32_w]
     rfl
    refine pure_ (i := 11) (N := some 57) (v := ?_) (a' := ?_) (bA 12 4095) rfl rfl (by kernel_rfl) (fun _ _ _ h => h) (Or.inl ⟨by rfl, ?_⟩) ?_ ?_
    rotate_left
    ·intro w'
     go_simp
     with_reducible rfl
    rotate_left
    ·simp only [Act.put, List.setIfInBounds_toArray, List.set_cons_zero, List.set_cons_succ, i64_w, i32_w]
     rfl
    refine done_ (by kernel_rfl) ?_
    obtain ⟨W1, hW1⟩ : ∃ W_, W.drew = W_ := ⟨_, rfl⟩
    rw [hW1]
    have Z3 : Aside0 (W1.heap[g3]? = some (.cells #[.int .u16 most] 34 (0, 0))) := ⟨by rw [← hW1]; exact blk_drew Y3.out⟩
    have hz3 : W1.cell? ⟨g3, 0, none⟩ = some (.int .u16 most) := (blk_cell Z3.out 0).trans rfl
    have hy3 := blk_frozen Z3.out 0
    have Z4 : Aside0 (W1.heap[g4]? = some (.cells #[.bool false] 4 (0, 0))) := ⟨by rw [← hW1]; exact blk_drew Y4.out⟩
    have hz4 : W1.cell? ⟨g4, 0, none⟩ = some (.bool false) := (blk_cell Z4.out 0).trans rfl
    have hy4 := blk_frozen Z4.out 0
    have Z10 : Aside0 (W1.heap[g10]? = some (.cells #[.slice (some ad) d.length cd] 40 (0, 0))) := ⟨by rw [← hW1]; exact blk_drew Y10.out⟩
    have hz10 : W1.cell? ⟨g10, 0, none⟩ = some (.slice (some ad) d.length cd) := (blk_cell Z10.out 0).trans rfl
    have hy10 := blk_frozen Z10.out 0
    have Z11 : Aside0 (W1.heap[g11]? = some (.cells #[.int .i64 n] 3 (0, 0))) := ⟨by rw [← hW1]; exact blk_drew Yn.out⟩
    have hz11 : W1.cell? ⟨g11, 0, none⟩ = some (.int .i64 n) := (blk_cell Z11.out 0).trans rfl
    have hy11 := blk_frozen Z11.out 0
    have Zd : Aside0 (Kd.R k43 43 W1 w.heap.size (fun k_ => some k_ = (Value.slice (some ad) d.length cd).ownBlock) (.slice (some ad) d.length cd) d) := ⟨by rw [← hW1]; exact Kd.R_drew Yd.out⟩
    have ZK : Aside0 (PK w.heap.size gV gM W W1 ∧ KeepsOthers W W1) := ⟨by rw [← hW1]; exact ⟨PK.drew _ _ _ _, KeepsOthers.drew _⟩⟩
    have hw1 : wrap64 (n + 1) = n + 1 := Go.IntWalk.wrap64_in _ (by have := HN.out; omega)
    have hw2 : IntKind.i64.wrap (n + 1) = n + 1 := Go.IntWalk.i64_in _ (by have := HN.out; omega)
    have hw3 : IntKind.i64.wrap most = most := Go.IntWalk.i64_in _ (by have := HM.out; omega)
    have hw4 : wrap64 most = most := Go.IntWalk.wrap64_in _ (by have := HM.out; omega)
    have hn3_11 := N3_11.out; have hn11_3 := N11_3.out; have hn4_11 := N4_11.out; have hn11_4 := N11_4.out
    have hsz1 : W.heap.size ≤ W1.heap.size := by rw [← hW1]; simp
    clear hW1 hc11 hc10 hcb0 hcb1 hx0 hx1 hHeld hc3 hc4 hge hge2 pI qI
    by_cases hgt : n + 1 > most
    ·have hgt2 := decide_eq_true hgt
     gi_wp2
     have hlen : ((pre ++ [x]).length : Int) = n + 1 := by have := HNN.out; simp; omega
     have hJ : barscanlaw31_RasterBounds.J w w15.heap.size g3 g4 g10 g11 most (some ad) cd d (n + 1) (W1.setCell ⟨g11, 0, none⟩ (.int .i64 (n + 1))) := by
      refine ⟨⟨blk_far (p := ⟨g11, 0, none⟩) Z3.out N3_11.out _, blk_far (p := ⟨g11, 0, none⟩) Z4.out N4_11.out _, blk_far (p := ⟨g11, 0, none⟩) Z10.out N10_11.out _, blk_put Z11.out 0 _ rfl, ?_⟩, (HB1.out.trans ZK.out.1.1).setCell (p := ⟨g11, 0, none⟩) (show w.heap.size ≤ g11 from G11.out) _, by have := HLE.out; simp; omega⟩
      exact Kd.R_step Zd.out (fun k hk hlt => Below.heap_setCell _ ⟨g11, 0, none⟩ _ k (by obtain ⟨cs, hcs⟩ := Kd.R_typed Zd.out k hk.symm; exact blk_ne hcs Z11.out (by decide)))
     refine ⟨((ZK.out.2.trans (KeepsOthers.setCell _ _ _)).from _), Or.inr ⟨rfl, by rw [hlen]; have := HN.out; omega, ?_⟩⟩
     rw [hlen]
     exact hJ
    ·have hgt2 := decide_eq_false hgt
     gi_wp2
     have hlen : ((pre ++ [x]).length : Int) = n + 1 := by have := HNN.out; simp; omega
     have hJ : barscanlaw31_RasterBounds.J w w15.heap.size g3 g4 g10 g11 most (some ad) cd d (n + 1) (W1.setCell ⟨g11, 0, none⟩ (.int .i64 (n + 1))) := by
      refine ⟨⟨blk_far (p := ⟨g11, 0, none⟩) Z3.out N3_11.out _, blk_far (p := ⟨g11, 0, none⟩) Z4.out N4_11.out _, blk_far (p := ⟨g11, 0, none⟩) Z10.out N10_11.out _, blk_put Z11.out 0 _ rfl, ?_⟩, (HB1.out.trans ZK.out.1.1).setCell (p := ⟨g11, 0, none⟩) (show w.heap.size ≤ g11 from G11.out) _, by have := HLE.out; simp; omega⟩
      exact Kd.R_step Zd.out (fun k hk hlt => Below.heap_setCell _ ⟨g11, 0, none⟩ _ k (by obtain ⟨cs, hcs⟩ := Kd.R_typed Zd.out k hk.symm; exact blk_ne hcs Z11.out (by decide)))
     refine ⟨((ZK.out.2.trans (KeepsOthers.setCell _ _ _)).from _), PK.trans ZK.out.1 ⟨(Below.refl _ W1).setCell (p := ⟨g11, 0, none⟩) (show w.heap.size ≤ g11 from G11.out) _, Below.heap_setCell _ ⟨g11, 0, none⟩ _ _ NV_11.out, Below.heap_setCell _ ⟨g11, 0, none⟩ _ _ NM_11.out⟩, ?_, by rw [hlen]; omega⟩
     rw [hlen]
     exact hJ
   ·have HQ := Aside0.mk (HNP.out hq)
    by_cases hq1 : X1 = R0
    ·subst hq1
     have hq2 : (X2 == R1) = false := beq_eq_false_iff_ne.mpr (fun h => hq ⟨rfl, h⟩)
     gi_wp2
     refine startIn_ (m := 12) l' 3 (by kernel_rfl) (fun ⟨_, _, h⟩ => h) (S := fun w' => w'.cell? ⟨g11, 0, none⟩ = some (.int .i64 n) ∧ w'.cell? ⟨g10, 0, none⟩ = some (.slice (some ad) d.length cd) ∧ w'.cell? ⟨Bx, 0, none⟩ = some (.int .i64 X1) ∧ w'.cell? ⟨Bx, 1, none⟩ = some (.int .i64 X2) ∧ w'.cell? (ad.add (n.toNat * 2)) = some (.int .i64 X1) ∧ w'.cell? ⟨(ad.add (n.toNat * 2)).block, (ad.add (n.toNat * 2)).off + 1, none⟩ = some (.int .i64 R1)) (ds := []) (bA 12 0) (by kernel_rfl) rfl rfl ⟨hc11, hc10, hcb0, hcb1, hx0, hx1⟩ (fun hHeld => ?_)
     refine take_ (i := 0) (N := some 46) (v := ?_) (a' := ?_) (bA 12 1) rfl rfl (by kernel_rfl) (fun _ _ _ h => h) (Or.inl ⟨by rfl, ?_⟩) hHeld ?_ ?_
     rotate_left
     ·rintro w' ⟨s0, s1, s2, s3, s4, s5⟩
      go_simp
      with_reducible rfl
     rotate_left
     ·simp only [Act.put, List.setIfInBounds_toArray, List.set_cons_zero, List.set_cons_succ, i64_w, i32_w]
      rfl
     refine take_ (i := 1) (N := some 47) (v := ?_) (a' := ?_) (bA 12 3) rfl rfl (by kernel_rfl) (fun _ _ _ h => h) (Or.inl ⟨by rfl, ?_⟩) hHeld ?_ ?_
     rotate_left
     ·rintro w' ⟨s0, s1, s2, s3, s4, s5⟩
      go_simp
      with_reducible rfl
     rotate_left
     ·simp only [Act.put, List.setIfInBounds_toArray, List.set_cons_zero, List.set_cons_succ, i64_w, i32_w]
      rfl
     refine pure_ (i := 2) (N := some 48) (v := ?_) (a' := ?_) (bA 12 7) rfl rfl (by kernel_rfl) (fun _ _ _ h => h) (Or.inl ⟨by rfl, ?_⟩) ?_ ?_
     rotate_left
     ·intro w'
      go_simp
      with_reducible rfl
     rotate_left
     ·simp only [Act.put, List.setIfInBounds_toArray, List.set_cons_zero, List.set_cons_succ, i64_w, i32_w]
      rfl
     refine pure_ (i := 3) (N := some 49) (v := ?_) (a' := ?_) (bA 12 15) rfl rfl (by kernel_rfl) (fun _ _ _ h => h) (Or.inl ⟨by rfl, ?_⟩) ?_ ?_
     rotate_left
     ·intro w'
      go_simp
      with_reducible rfl
     rotate_left
     ·simp only [Act.put, List.setIfInBounds_toArray, List.set_cons_zero, List.set_cons_succ, i64_w, i32_w]
      rfl
     refine pure_ (i := 4) (N := some 50) (v := ?_) (a' := ?_) (bA 12 31) rfl rfl (by kernel_rfl) (fun _ _ _ h => h) (Or.inl ⟨by rfl, ?_⟩) ?_ ?_
     rotate_left
     ·intro w'
      go_simp
      with_reducible rfl
     rotate_left
     ·simp only [Act.put, List.setIfInBounds_toArray, List.set_cons_zero, List.set_cons_succ, i64_w, i32_w]
      rfl
     refine take_ (i := 5) (N := some 51) (v := ?_) (a' := ?_) (bA 12 63) rfl rfl (by kernel_rfl) (fun _ _ _ h => h) (Or.inl ⟨by rfl, ?_⟩) hHeld ?_ ?_
     rotate_left
     ·rintro w' ⟨s0, s1, s2, s3, s4, s5⟩
      go_simp
      with_reducible rfl
     rotate_left
     ·simp only [Act.put, List.setIfInBounds_toArray, List.set_cons_zero, List.set_cons_succ, i64_w, i32_w]
      rfl
     refine take_ (i := 6) (N := some 52) (v := ?_) (a' := ?_) (bA 12 127) rfl rfl (by kernel_rfl) (fun _ _ _ h => h) (Or.inl ⟨by rfl, ?_⟩) hHeld ?_ ?_
     rotate_left
     ·rintro w' ⟨s0, s1, s2, s3, s4, s5⟩
      go_simp
      with_reducible rfl
     rotate_left
     ·simp only [Act.put, List.setIfInBounds_toArray, List.set_cons_zero, List.set_cons_succ, i64_w, i32_w]
      rfl
     refine take_ (i := 7) (N := some 53) (v := ?_) (a' := ?_) (bA 12 255) rfl rfl (by kernel_rfl) (fun _ _ _ h => h) (Or.inl ⟨by rfl, ?_⟩) hHeld ?_ ?_
     rotate_left
     ·rintro w' ⟨s0, s1, s2, s3, s4, s5⟩
      go_simp
      with_reducible rfl
     rotate_left
     ·simp only [Act.put, List.setIfInBounds_toArray, List.set_cons_zero, List.set_cons_succ, i64_w, i32_w]
      rfl
     refine pure_ (i := 8) (N := some 54) (v := ?_) (a' := ?_) (bA 12 511) rfl rfl (by kernel_rfl) (fun _ _ _ h => h) (Or.inl ⟨by rfl, ?_⟩) ?_ ?_
     rotate_left
     ·intro w'
      go_simp
      with_reducible rfl
     rotate_left
     ·simp only [Act.put, List.setIfInBounds_toArray, List.set_cons_zero, List.set_cons_succ, i64_w, i32_w]
      rfl
     refine take_ (i := 9) (N := some 55) (v := ?_) (a' := ?_) (bA 12 1023) rfl rfl (by kernel_rfl) (fun _ _ _ h => h) (Or.inl ⟨by rfl, ?_⟩) hHeld ?_ ?_
     rotate_left
     ·rintro w' ⟨s0, s1, s2, s3, s4, s5⟩
      go_simp
      with_reducible rfl
     rotate_left
     ·simp only [Act.put, List.setIfInBounds_toArray, List.set_cons_zero, List.set_cons_succ, i64_w, i32_w]
      rfl
     refine pure_ (i := 10) (N := some 56) (v := ?_) (a' := ?_) (bA 12 2047) rfl rfl (by kernel_rfl) (fun _ _ _ h => h) (Or.inl ⟨by rfl, ?_⟩) ?_ ?_
     rotate_left
     ·intro w'
      go_simp
      with_reducible rfl
     rotate_left
     ·simp only [Act.put, List.setIfInBounds_toArray, List.set_cons_zero, List.set_cons_succ, i64_w, i32_w]
      rfl
     refine pure_ (i := 11) (N := some 57) (v := ?_) (a' := ?_) (bA 12 4095) rfl rfl (by kernel_rfl) (fun _ _ _ h => h) (Or.inl ⟨by rfl, ?_⟩) ?_ ?_
     rotate_left
     ·intro w'
      go_simp
      with_reducible rfl
     rotate_left
     ·simp only [Act.put, List.setIfInBounds_toArray, List.set_cons_zero, List.set_cons_succ, i64_w, i32_w]
      rfl
     refine done_ (by kernel_rfl) ?_
     obtain ⟨W1, hW1⟩ : ∃ W_, W.drew = W_ := ⟨_, rfl⟩
     rw [hW1]
     have Z3 : Aside0 (W1.heap[g3]? = some (.cells #[.int .u16 most] 34 (0, 0))) := ⟨by rw [← hW1]; exact blk_drew Y3.out⟩
     have hz3 : W1.cell? ⟨g3, 0, none⟩ = some (.int .u16 most) := (blk_cell Z3.out 0).trans rfl
     have hy3 := blk_frozen Z3.out 0
     have Z4 : Aside0 (W1.heap[g4]? = some (.cells #[.bool false] 4 (0, 0))) := ⟨by rw [← hW1]; exact blk_drew Y4.out⟩
     have hz4 : W1.cell? ⟨g4, 0, none⟩ = some (.bool false) := (blk_cell Z4.out 0).trans rfl
     have hy4 := blk_frozen Z4.out 0
     have Z10 : Aside0 (W1.heap[g10]? = some (.cells #[.slice (some ad) d.length cd] 40 (0, 0))) := ⟨by rw [← hW1]; exact blk_drew Y10.out⟩
     have hz10 : W1.cell? ⟨g10, 0, none⟩ = some (.slice (some ad) d.length cd) := (blk_cell Z10.out 0).trans rfl
     have hy10 := blk_frozen Z10.out 0
     have Z11 : Aside0 (W1.heap[g11]? = some (.cells #[.int .i64 n] 3 (0, 0))) := ⟨by rw [← hW1]; exact blk_drew Yn.out⟩
     have hz11 : W1.cell? ⟨g11, 0, none⟩ = some (.int .i64 n) := (blk_cell Z11.out 0).trans rfl
     have hy11 := blk_frozen Z11.out 0
     have Zd : Aside0 (Kd.R k43 43 W1 w.heap.size (fun k_ => some k_ = (Value.slice (some ad) d.length cd).ownBlock) (.slice (some ad) d.length cd) d) := ⟨by rw [← hW1]; exact Kd.R_drew Yd.out⟩
     have ZK : Aside0 (PK w.heap.size gV gM W W1 ∧ KeepsOthers W W1) := ⟨by rw [← hW1]; exact ⟨PK.drew _ _ _ _, KeepsOthers.drew _⟩⟩
     have hw1 : wrap64 (n + 1) = n + 1 := Go.IntWalk.wrap64_in _ (by have := HN.out; omega)
     have hw2 : IntKind.i64.wrap (n + 1) = n + 1 := Go.IntWalk.i64_in _ (by have := HN.out; omega)
     have hw3 : IntKind.i64.wrap most = most := Go.IntWalk.i64_in _ (by have := HM.out; omega)
     have hw4 : wrap64 most = most := Go.IntWalk.wrap64_in _ (by have := HM.out; omega)
     have hn3_11 := N3_11.out; have hn11_3 := N11_3.out; have hn4_11 := N4_11.out; have hn11_4 := N11_4.out
     have hsz1 : W.heap.size ≤ W1.heap.size := by rw [← hW1]; simp
     clear hW1 hc11 hc10 hcb0 hcb1 hx0 hx1 hHeld hc3 hc4 hge hge2 pI qI
     gi_wp2
     exact ⟨((ZK.out.2.trans (KeepsOthers.setCell _ _ _)).from _), Or.inl ⟨rfl, HQ.out⟩⟩
    ·have hq2 : (X1 == R0) = false := beq_eq_false_iff_ne.mpr hq1
     gi_wp2
     refine startIn_ (m := 12) l' 3 (by kernel_rfl) (fun ⟨_, _, h⟩ => h) (S := fun w' => w'.cell? ⟨g11, 0, none⟩ = some (.int .i64 n) ∧ w'.cell? ⟨g10, 0, none⟩ = some (.slice (some ad) d.length cd) ∧ w'.cell? ⟨Bx, 0, none⟩ = some (.int .i64 X1) ∧ w'.cell? ⟨Bx, 1, none⟩ = some (.int .i64 X2) ∧ w'.cell? (ad.add (n.toNat * 2)) = some (.int .i64 R0) ∧ w'.cell? ⟨(ad.add (n.toNat * 2)).block, (ad.add (n.toNat * 2)).off + 1, none⟩ = some (.int .i64 R1)) (ds := []) (bA 12 0) (by kernel_rfl) rfl rfl ⟨hc11, hc10, hcb0, hcb1, hx0, hx1⟩ (fun hHeld => ?_)
     refine take_ (i := 0) (N := some 46) (v := ?_) (a' := ?_) (bA 12 1) rfl rfl (by kernel_rfl) (fun _ _ _ h => h) (Or.inl ⟨by rfl, ?_⟩) hHeld ?_ ?_
     rotate_left
     ·rintro w' ⟨s0, s1, s2, s3, s4, s5⟩
      go_simp
      with_reducible rfl
     rotate_left
     ·simp only [Act.put, List.setIfInBounds_toArray, List.set_cons_zero, List.set_cons_succ, i64_w, i32_w]
      rfl
     refine take_ (i := 1) (N := some 47) (v := ?_) (a' := ?_) (bA 12 3) rfl rfl (by kernel_rfl) (fun _ _ _ h => h) (Or.inl ⟨by rfl, ?_⟩) hHeld ?_ ?_
     rotate_left
     ·rintro w' ⟨s0, s1, s2, s3, s4, s5⟩
      go_simp
      with_reducible rfl
     rotate_left
     ·simp only [Act.put, List.setIfInBounds_toArray, List.set_cons_zero, List.set_cons_succ, i64_w, i32_w]
      rfl
     refine pure_ (i := 2) (N := some 48) (v := ?_) (a' := ?_) (bA 12 7) rfl rfl (by kernel_rfl) (fun _ _ _ h => h) (Or.inl ⟨by rfl, ?_⟩) ?_ ?_
     rotate_left
     ·intro w'
      go_simp
      with_reducible rfl
     rotate_left
     ·simp only [Act.put, List.setIfInBounds_toArray, List.set_cons_zero, List.set_cons_succ, i64_w, i32_w]
      rfl
     refine pure_ (i := 3) (N := some 49) (v := ?_) (a' := ?_) (bA 12 15) rfl rfl (by kernel_rfl) (fun _ _ _ h => h) (Or.inl ⟨by rfl, ?_⟩) ?_ ?_
     rotate_left
     ·intro w'
      go_simp
      with_reducible rfl
     rotate_left
     ·simp only [Act.put, List.setIfInBounds_toArray, List.set_cons_zero, List.set_cons_succ, i64_w, i32_w]
      rfl
     refine pure_ (i := 4) (N := some 50) (v := ?_) (a' := ?_) (bA 12 31) rfl rfl (by kernel_rfl) (fun _ _ _ h => h) (Or.inl ⟨by rfl, ?_⟩) ?_ ?_
     rotate_left
     ·intro w'
      go_simp
      with_reducible rfl
     rotate_left
     ·simp only [Act.put, List.setIfInBounds_toArray, List.set_cons_zero, List.set_cons_succ, i64_w, i32_w]
      rfl
     refine take_ (i := 5) (N := some 51) (v := ?_) (a' := ?_) (bA 12 63) rfl rfl (by kernel_rfl) (fun _ _ _ h => h) (Or.inl ⟨by rfl, ?_⟩) hHeld ?_ ?_
     rotate_left
     ·rintro w' ⟨s0, s1, s2, s3, s4, s5⟩
      go_simp
      with_reducible rfl
     rotate_left
     ·simp only [Act.put, List.setIfInBounds_toArray, List.set_cons_zero, List.set_cons_succ, i64_w, i32_w]
      rfl
     refine take_ (i := 6) (N := some 52) (v := ?_) (a' := ?_) (bA 12 127) rfl rfl (by kernel_rfl) (fun _ _ _ h => h) (Or.inl ⟨by rfl, ?_⟩) hHeld ?_ ?_
     rotate_left
     ·rintro w' ⟨s0, s1, s2, s3, s4, s5⟩
      go_simp
      with_reducible rfl
     rotate_left
     ·simp only [Act.put, List.setIfInBounds_toArray, List.set_cons_zero, List.set_cons_succ, i64_w, i32_w]
      rfl
     refine take_ (i := 7) (N := some 53) (v := ?_) (a' := ?_) (bA 12 255) rfl rfl (by kernel_rfl) (fun _ _ _ h => h) (Or.inl ⟨by rfl, ?_⟩) hHeld ?_ ?_
     rotate_left
     ·rintro w' ⟨s0, s1, s2, s3, s4, s5⟩
      go_simp
      with_reducible rfl
     rotate_left
     ·simp only [Act.put, List.setIfInBounds_toArray, List.set_cons_zero, List.set_cons_succ, i64_w, i32_w]
      rfl
     refine pure_ (i := 8) (N := some 54) (v := ?_) (a' := ?_) (bA 12 511) rfl rfl (by kernel_rfl) (fun _ _ _ h => h) (Or.inl ⟨by rfl, ?_⟩) ?_ ?_
     rotate_left
     ·intro w'
      go_simp
      with_reducible rfl
     rotate_left
     ·simp only [Act.put, List.setIfInBounds_toArray, List.set_cons_zero, List.set_cons_succ, i64_w, i32_w]
      rfl
     refine take_ (i := 9) (N := some 55) (v := ?_) (a' := ?_) (bA 12 1023) rfl rfl (by kernel_rfl) (fun _ _ _ h => h) (Or.inl ⟨by rfl, ?_⟩) hHeld ?_ ?_
     rotate_left
     ·rintro w' ⟨s0, s1, s2, s3, s4, s5⟩
      go_simp
      with_reducible rfl
     rotate_left
     ·simp only [Act.put, List.setIfInBounds_toArray, List.set_cons_zero, List.set_cons_succ, i64_w, i32_w]
      rfl
     refine pure_ (i := 10) (N := some 56) (v := ?_) (a' := ?_) (bA 12 2047) rfl rfl (by kernel_rfl) (fun _ _ _ h => h) (Or.inl ⟨by rfl, ?_⟩) ?_ ?_
     rotate_left
     ·intro w'
      go_simp
      with_reducible rfl
     rotate_left
     ·simp only [Act.put, List.setIfInBounds_toArray, List.set_cons_zero, List.set_cons_succ, i64_w, i32_w]
      rfl
     refine pure_ (i := 11) (N := some 57) (v := ?_) (a' := ?_) (bA 12 4095) rfl rfl (by kernel_rfl) (fun _ _ _ h => h) (Or.inl ⟨by rfl, ?_⟩) ?_ ?_
     rotate_left
     ·intro w'
      go_simp
      with_reducible rfl
     rotate_left
     ·simp only [Act.put, List.setIfInBounds_toArray, List.set_cons_zero, List.set_cons_succ, i64_w, i32_w]
      rfl
     refine done_ (by kernel_rfl) ?_
     obtain ⟨W1, hW1⟩ : ∃ W_, W.drew = W_ := ⟨_, rfl⟩
     rw [hW1]
     have Z3 : Aside0 (W1.heap[g3]? = some (.cells #[.int .u16 most] 34 (0, 0))) := ⟨by rw [← hW1]; exact blk_drew Y3.out⟩
     have hz3 : W1.cell? ⟨g3, 0, none⟩ = some (.int .u16 most) := (blk_cell Z3.out 0).trans rfl
     have hy3 := blk_frozen Z3.out 0
     have Z4 : Aside0 (W1.heap[g4]? = some (.cells #[.bool false] 4 (0, 0))) := ⟨by rw [← hW1]; exact blk_drew Y4.out⟩
     have hz4 : W1.cell? ⟨g4, 0, none⟩ = some (.bool false) := (blk_cell Z4.out 0).trans rfl
     have hy4 := blk_frozen Z4.out 0
     have Z10 : Aside0 (W1.heap[g10]? = some (.cells #[.slice (some ad) d.length cd] 40 (0, 0))) := ⟨by rw [← hW1]; exact blk_drew Y10.out⟩
     have hz10 : W1.cell? ⟨g10, 0, none⟩ = some (.slice (some ad) d.length cd) := (blk_cell Z10.out 0).trans rfl
     have hy10 := blk_frozen Z10.out 0
     have Z11 : Aside0 (W1.heap[g11]? = some (.cells #[.int .i64 n] 3 (0, 0))) := ⟨by rw [← hW1]; exact blk_drew Yn.out⟩
     have hz11 : W1.cell? ⟨g11, 0, none⟩ = some (.int .i64 n) := (blk_cell Z11.out 0).trans rfl
     have hy11 := blk_frozen Z11.out 0
     have Zd : Aside0 (Kd.R k43 43 W1 w.heap.size (fun k_ => some k_ = (Value.slice (some ad) d.length cd).ownBlock) (.slice (some ad) d.length cd) d) := ⟨by rw [← hW1]; exact Kd.R_drew Yd.out⟩
     have ZK : Aside0 (PK w.heap.size gV gM W W1 ∧ KeepsOthers W W1) := ⟨by rw [← hW1]; exact ⟨PK.drew _ _ _ _, KeepsOthers.drew _⟩⟩
     have hw1 : wrap64 (n + 1) = n + 1 := Go.IntWalk.wrap64_in _ (by have := HN.out; omega)
     have hw2 : IntKind.i64.wrap (n + 1) = n + 1 := Go.IntWalk.i64_in _ (by have := HN.out; omega)
     have hw3 : IntKind.i64.wrap most = most := Go.IntWalk.i64_in _ (by have := HM.out; omega)
     have hw4 : wrap64 most = most := Go.IntWalk.wrap64_in _ (by have := HM.out; omega)
     have hn3_11 := N3_11.out; have hn11_3 := N11_3.out; have hn4_11 := N4_11.out; have hn11_4 := N11_4.out
     have hsz1 : W.heap.size ≤ W1.heap.size := by rw [← hW1]; simp
     clear hW1 hc11 hc10 hcb0 hcb1 hx0 hx1 hHeld hc3 hc4 hge hge2 pI qI
     gi_wp2
     exact ⟨((ZK.out.2.trans (KeepsOthers.setCell _ _ _)).from _), Or.inl ⟨rfl, HQ.out⟩⟩
  case done =>
   rintro D ys W hD rfl ⟨⟨⟨y3, y4, y10, y11, yd⟩, hB1, hle⟩, hle2⟩ hK
   rw [HDL.out] at y11 hle2
   have hlt1 : (most + 1 < (d.length : Int)) = False := eq_false (by omega)
   have hlt2 : ((d.length : Int) < most + 1) = True := eq_true (by omega)
   have Y3 := Aside0.mk y3
   have Y4 := Aside0.mk y4
   have Y10 := Aside0.mk y10
   have Y11 := Aside0.mk y11
   have Yd := Aside0.mk yd
   have HB1 := Aside0.mk hB1
   have HK := Aside0.mk hK
   have hc11 : W.cell? ⟨g11, 0, none⟩ = some (.int .i64 ((d.length : Int))) := (blk_cell y11 0).trans rfl
   have hc10 : W.cell? ⟨g10, 0, none⟩ = some (.slice Ad d.length cd) := (blk_cell y10 0).trans rfl
   have hc3 : W.cell? ⟨g3, 0, none⟩ = some (.int .u16 most) := (blk_cell y3 0).trans rfl
   have hw3 : IntKind.i64.wrap most = most := Go.IntWalk.i64_in _ (by have := HM.out; omega)
   have hw4 : wrap64 most = most := Go.IntWalk.wrap64_in _ (by have := HM.out; omega)
   have hw5 : IntKind.i64.wrap (most + 1) = most + 1 := Go.IntWalk.i64_in _ (by have := HM.out; omega)
   have hw6 : wrap64 (most + 1) = most + 1 := Go.IntWalk.wrap64_in _ (by have := HM.out; omega)
   clear y3 y4 y10 y11 yd hB1 hK
   go_wp2_with (go_at_call 13; refine (barscanlaw31_examples.calls k r _ HX.out).mono ?_; rintro e W2 ⟨rfl, hb⟩; have Z4 := Aside0.mk (blk_below Y4.out hb); have ZB := Aside0.mk (below_then HB1.out HB1.out.size hb); have ZD := Aside0.mk (blk_below HK.out hb); have hz4 : W2.cell? ⟨g4, 0, none⟩ = some (.bool false) := (blk_cell Z4.out 0).trans rfl; have hy4 := blk_frozen Z4.out 0; clear hb)
   obtain ⟨W3, hW3⟩ : ∃ W3, W2.setCell ⟨g4, 0, none⟩ (.bool r) = W3 := ⟨_, rfl⟩
   rw [hW3]
   have hB3 : Below w.heap.size w W3 := by rw [← hW3]; exact below_set ZB.out G4.out
   have hX3 : W3.heap[g4]? = some (.cells #[.bool r] 4 (0, 0)) := by rw [← hW3]; exact blk_put Z4.out 0 _ rfl
   have hK3 : W3.heap[D]? = some (.deferred (some [])) := by rw [← hW3]; exact (KeepsOthers.setCell _ _ _).same D _ ZD.out rfl
   have hDne : g4 ≠ D := by omega
   refine ⟨by simp, .inl ⟨_, _, rfl, run_takeDeferred hK3, ?_⟩⟩
   refine ⟨_, barscanlaw31_RasterBounds.results_bool rfl _ _ g4 r rfl ((blk_cell ((World.putObj_heap_other hDne).trans hX3) 0).trans rfl), rfl, hB3.trans ?_⟩
   exact belowK_b (w := w) (Nat.le_refl _) W3 D _ _ (by omega) hK3 rfl rfl
  case stop =>
   rintro D c pre W hD hSp hJx hK
   have hpre : pre <+: d.map (fun p => (p.f0, p.f1)) := by
    obtain ⟨hv, kk, hk1, hk2⟩ := hSp
    rw [HD.out, if_pos hv, hk2]
    exact dots_prefix a l hk1
   rcases hJx with ⟨rfl, hno⟩ | ⟨rfl, hlen, ⟨y3, y4, y10, y11, yd⟩, hB1, hle⟩
   ·exact absurd hpre hno
   ·have hpl : pre.length ≤ d.length := by have := hpre.length_le; rwa [List.length_map] at this
    rw [hlen] at y11
    clear hSp hpre
    by_cases hlt0 : most + 1 < (d.length : Int)
    ·have hlt1 := eq_true hlt0
     have hlt2 : ((d.length : Int) < most + 1) = False := eq_false (by omega)
     refine wpIn_wide.2 ?_
     dsimp only
     clear hlen hpl hlt0
     apply wp_exit
     go_simp
     have Y3 := Aside0.mk y3
     have Y4 := Aside0.mk y4
     have Y10 := Aside0.mk y10
     have Y11 := Aside0.mk y11
     have Yd := Aside0.mk yd
     have HB1 := Aside0.mk hB1
     have HK := Aside0.mk hK
     have hc11 : W.cell? ⟨g11, 0, none⟩ = some (.int .i64 (most + 1)) := (blk_cell y11 0).trans rfl
     have hc10 : W.cell? ⟨g10, 0, none⟩ = some (.slice Ad d.length cd) := (blk_cell y10 0).trans rfl
     have hc3 : W.cell? ⟨g3, 0, none⟩ = some (.int .u16 most) := (blk_cell y3 0).trans rfl
     have hw3 : IntKind.i64.wrap most = most := Go.IntWalk.i64_in _ (by have := HM.out; omega)
     have hw4 : wrap64 most = most := Go.IntWalk.wrap64_in _ (by have := HM.out; omega)
     have hw5 : IntKind.i64.wrap (most + 1) = most + 1 := Go.IntWalk.i64_in _ (by have := HM.out; omega)
     have hw6 : wrap64 (most + 1) = most + 1 := Go.IntWalk.wrap64_in _ (by have := HM.out; omega)
     clear y3 y4 y10 y11 yd hB1 hK
     go_wp2_with (go_at_call 13; refine (barscanlaw31_examples.calls k r _ HX.out).mono ?_; rintro e W2 ⟨rfl, hb⟩; have Z4 := Aside0.mk (blk_below Y4.out hb); have ZB := Aside0.mk (below_then HB1.out HB1.out.size hb); have ZD := Aside0.mk (blk_below HK.out hb); have hz4 : W2.cell? ⟨g4, 0, none⟩ = some (.bool false) := (blk_cell Z4.out 0).trans rfl; have hy4 := blk_frozen Z4.out 0; clear hb)
     obtain ⟨W3, hW3⟩ : ∃ W3, W2.setCell ⟨g4, 0, none⟩ (.bool r) = W3 := ⟨_, rfl⟩
     rw [hW3]
     have hB3 : Below w.heap.size w W3 := by rw [← hW3]; exact below_set ZB.out G4.out
     have hX3 : W3.heap[g4]? = some (.cells #[.bool r] 4 (0, 0)) := by rw [← hW3]; exact blk_put Z4.out 0 _ rfl
     have hK3 : W3.heap[D]? = some (.deferred (some [])) := by rw [← hW3]; exact (KeepsOthers.setCell _ _ _).same D _ ZD.out rfl
     have hDne : g4 ≠ D := by omega
     refine ⟨by simp, .inl ⟨_, _, rfl, run_takeDeferred hK3, ?_⟩⟩
     refine ⟨_, barscanlaw31_RasterBounds.results_bool rfl _ _ g4 r rfl ((blk_cell ((World.putObj_heap_other hDne).trans hX3) 0).trans rfl), rfl, hB3.trans ?_⟩
     exact belowK_b (w := w) (Nat.le_refl _) W3 D _ _ (by omega) hK3 rfl rfl
    ·have hdl : most + 1 = (d.length : Int) := by omega
     rw [hdl] at y11
     have hlt1 : (most + 1 < (d.length : Int)) = False := eq_false (by omega)
     have hlt2 : ((d.length : Int) < most + 1) = False := eq_false (by omega)
     refine wpIn_wide.2 ?_
     dsimp only
     clear hlen hpl hlt0 hdl
     apply wp_exit
     go_simp
     have Y3 := Aside0.mk y3
     have Y4 := Aside0.mk y4
     have Y10 := Aside0.mk y10
     have Y11 := Aside0.mk y11
     have Yd := Aside0.mk yd
     have HB1 := Aside0.mk hB1
     have HK := Aside0.mk hK
     have hc11 : W.cell? ⟨g11, 0, none⟩ = some (.int .i64 ((d.length : Int))) := (blk_cell y11 0).trans rfl
     have hc10 : W.cell? ⟨g10, 0, none⟩ = some (.slice Ad d.length cd) := (blk_cell y10 0).trans rfl
     have hc3 : W.cell? ⟨g3, 0, none⟩ = some (.int .u16 most) := (blk_cell y3 0).trans rfl
     have hw3 : IntKind.i64.wrap most = most := Go.IntWalk.i64_in _ (by have := HM.out; omega)
     have hw4 : wrap64 most = most := Go.IntWalk.wrap64_in _ (by have := HM.out; omega)
     have hw5 : IntKind.i64.wrap (most + 1) = most + 1 := Go.IntWalk.i64_in _ (by have := HM.out; omega)
     have hw6 : wrap64 (most + 1) = most + 1 := Go.IntWalk.wrap64_in _ (by have := HM.out; omega)
     clear y3 y4 y10 y11 yd hB1 hK
     go_wp2_with (go_at_call 13; refine (barscanlaw31_examples.calls k r _ HX.out).mono ?_; rintro e W2 ⟨rfl, hb⟩; have Z4 := Aside0.mk (blk_below Y4.out hb); have ZB := Aside0.mk (below_then HB1.out HB1.out.size hb); have ZD := Aside0.mk (blk_below HK.out hb); have hz4 : W2.cell? ⟨g4, 0, none⟩ = some (.bool false) := (blk_cell Z4.out 0).trans rfl; have hy4 := blk_frozen Z4.out 0; clear hb)
     obtain ⟨W3, hW3⟩ : ∃ W3, W2.setCell ⟨g4, 0, none⟩ (.bool r) = W3 := ⟨_, rfl⟩
     rw [hW3]
     have hB3 : Below w.heap.size w W3 := by rw [← hW3]; exact below_set ZB.out G4.out
     have hX3 : W3.heap[g4]? = some (.cells #[.bool r] 4 (0, 0)) := by rw [← hW3]; exact blk_put Z4.out 0 _ rfl
     have hK3 : W3.heap[D]? = some (.deferred (some [])) := by rw [← hW3]; exact (KeepsOthers.setCell _ _ _).same D _ ZD.out rfl
     have hDne : g4 ≠ D := by omega
     refine ⟨by simp, .inl ⟨_, _, rfl, run_takeDeferred hK3, ?_⟩⟩
     refine ⟨_, barscanlaw31_RasterBounds.results_bool rfl _ _ g4 r rfl ((blk_cell ((World.putObj_heap_other hDne).trans hX3) 0).trans rfl), rfl, hB3.trans ?_⟩
     exact belowK_b (w := w) (Nat.le_refl _) W3 D _ _ (by omega) hK3 rfl rfl
end

end Go.Proofs.Ytcmcmoaikabfoaa.PR
