/-
PrintingRenders over numbers and rows: Render and Bars and their references agree. Conditions: none.
-/
import Derived.Test.YtbipbbckfmilfaaStmtPrintingRenders
import Derived.Test.YtbipbbckfmilfaaXRefRender
import Derived.Test.YtbipbbckfmilfaaXSame
namespace Go.Proofs.Ytbipbbckfmilfaa.Pure
set_option linter.unusedVariables false
open Go.RowKit Go.Proofs.Ytbipbbckfmilfaa.PR Go.Proofs.YtbipbbckfmilfaaW.PrintWords Go.Proofs.YtbipbbckfmilfaaW.PrintLast Go.Proofs.YtbipbbckfmilfaaW.PrintMore Go.Proofs.Ytbipbbckfmilfaa.XWords Go.Proofs.Ytbipbbckfmilfaa.XPure
theorem render_both (w h : Int) (l : List Bool) (s q : Int) : ∃ r : Int × Int × List Bool × Int, Ev (fun k => printing_Render.f k w h l s q) r ∧ Ev (fun k => barscanref43_Render.f k w h l s q) r ∧ r.2.2.1.length ≤ 4194304 := by
  by_cases B : Valid w h l.length ∧ Opts s q ∧ Fits (s * w + 2 * (q * s)) (s * h + 2 * (q * s))
  · refine ⟨_, render_ok B.1 B.2.1 B.2.2, refRender_ok B.1 B.2.1 B.2.2, ?_⟩
    have := B.2.2.2.2.2.2
    simp only [upto_length]
    omega
  · exact ⟨_, Ev.congr (fun k => render_bad B k) (Ev.now _), Ev.congr (fun k => refRender_bad B k) (Ev.now _), by simp⟩
theorem bars_both (l : List Bool) (h s q : Int) : ∃ r : Int × Int × List Bool × Int, Ev (fun k => printing_Bars.f k l h s q) r ∧ Ev (fun k => barscanref43_Bars.f k l h s q) r ∧ r.2.2.1.length ≤ 4194304 := by
  by_cases B : BarsOk l.length h s q
  · refine ⟨_, bars_ok B, refBars_ok B, ?_⟩
    have := B.2.2.2.2.2.2.2.2.2
    simp only [barsOf, upto_length]
    omega
  · exact ⟨_, (bars_bad B).1, (bars_bad B).2, by simp⟩
theorem renders_j0 (row : List Bool) (ht : Int) (b : Bool) (w h : Int) (l : List Bool) (s q : Int) : Ev (fun k => barscanlaw43_PrintingRenders.j0 k row ht b w h l s q) true := by
  cases b with
  | true =>
    refine Ev.step (f := fun k => (barscanlaw43_examples.f k).bind fun t => some t) (fun k => by simp [barscanlaw43_PrintingRenders.j0]) ?_
    exact Ev.bind examples_ok (Ev.now _)
  | false =>
    refine Ev.step (f := fun k => _) (fun k => by simp only [barscanlaw43_PrintingRenders.j0, Bool.false_eq_true, if_false]; rfl) ?_
    obtain ⟨r, r1, r2, r3⟩ := render_both w h l s q
    obtain ⟨t, t1, t2, t3⟩ := bars_both row ht s q
    refine Ev.bind r1 (Ev.bind r2 (Ev.bind t1 (Ev.bind t2 (Ev.bind (same_self _ _ _ r3) ?_))))
    simp only [if_true]
    refine Ev.bind (same_self _ _ _ t3) ?_
    simp only [if_true]
    exact Ev.bind examples_ok (Ev.now _)
theorem modest_some (s q : Int) : ∃ b, barscanlaw43_modest.f s q = some b := by
  unfold barscanlaw43_modest.f
  split <;> split <;> try exact ⟨_, rfl⟩
  split <;> exact ⟨_, rfl⟩
theorem PrintingRenders : barscanlaw43_PrintingRenders.Pure := by
  intro w h l row ht s q _ _ _ _ _ _ _
  refine Ev.rounds (g := fun k => barscanlaw43_PrintingRenders.f k w h l row ht s q) ?_
  unfold barscanlaw43_PrintingRenders.f
  obtain ⟨b, hb⟩ := modest_some s q
  simp only [hb, Option.bind_some]
  by_cases c1 : (l.length : Int) > 400 <;> by_cases c2 : (row.length : Int) > 100 <;> by_cases c3 : (row.length : Int) ≤ 65536 <;> by_cases c4 : ht > 40 <;> by_cases c5 : ht ≤ 4096 <;> simp only [c1, c2, c3, c4, c5, if_true, if_false] <;> exact renders_j0 _ _ _ _ _ _ _ _
end Go.Proofs.Ytbipbbckfmilfaa.Pure
