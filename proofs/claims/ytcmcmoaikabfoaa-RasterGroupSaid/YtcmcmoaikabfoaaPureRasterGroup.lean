/-
RasterGroup, over numbers and rows alone: turns and mirroring form the group of the square. Conditions: none.
-/
import Derived.Test.YtcmcmoaikabfoaaStmtRasterGroup
import Derived.Test.YtcmcmoaikabfoaaXMirror
namespace Go.Proofs.Ytcmcmoaikabfoaa.Pure
set_option linter.unusedVariables false
set_option linter.unusedSimpArgs false
open Go.RowKit Go.Proofs.Ytcmcmoaikabfoaa.PR Go.Proofs.YtcmcmoaikabfoaaW.PrintWords Go.Proofs.YtcmcmoaikabfoaaW.PrintLast Go.Proofs.YtcmcmoaikabfoaaW.PrintMore Go.Proofs.Ytcmcmoaikabfoaa.XWords Go.Proofs.Ytcmcmoaikabfoaa.XPure

theorem mir_fits {α : Type} {x : (Int × Int × (Int → Int → α))} (F : Fits x.1 x.2.1) : Fits (mir x).1 (mir x).2.1 := F
theorem same_tab {x y : (Int × Int × (Int → Int → Bool))} (F : Fits x.1 x.2.1) (e : x = y) : Ev (fun k => barscanlaw31_same.f k x.1 x.2.1 (tab x) y.1 y.2.1 (tab y)) true := by
  subst e
  exact same_self _ _ _ (tab_small F)
theorem RasterGroup : barscanlaw31_RasterGroup.Pure := by
  intro w h l a b hw hh hl ha hb
  refine Ev.rounds (g := fun k => barscanlaw31_RasterGroup.f k w h l a b) ?_
  have he : Ev (fun k => (barscanlaw31_examples.f k).bind fun t => some t) true := Ev.bind examples_ok (Ev.now _)
  have ha' := wf_i8 ha
  have hb' := wf_i8 hb
  unfold barscanlaw31_RasterGroup.f
  by_cases B : (l.length : Int) > 40000
  · simp only [if_pos B]
    exact he
  · simp only [if_neg B, w64 (n := a) (by omega), w64 (n := b) (by omega), w64 (n := a + b) (by omega), w64 (n := -a) (by omega)]
    by_cases V : Valid w h l.length
    · have hx := tab_of false V
      generalize hg : (fun u v => l.getD (v * w + u).toNat false) = g at hx
      have F : Fits (w, h, g).1 (w, h, g).2.1 := V.1
      rw [hx]
      generalize hX : ((w, h, g) : (Int × Int × (Int → Int → Bool))) = X at F
      have e1 : w = X.1 := by rw [← hX]
      have e2 : h = X.2.1 := by rw [← hX]
      rw [e1, e2]
      clear hX e1 e2 hx hg B V hl hw hh
      have F1 := rotN_fits (a % 4).toNat X F
      have F2 := rotN_fits ((-a) % 4).toNat X F
      refine Ev.bind (turn_ok F a) ?_
      simp only [if_true]
      refine Ev.bind (turn_ok F1 b) (Ev.bind (turn_ok F (a + b)) (Ev.bind (turn_ok F1 (-a)) (Ev.bind (turn_ok F 4) (Ev.bind (mirror_ok F) (Ev.bind (mirror_ok (mir_fits F)) (Ev.bind (turn_ok (mir_fits F) a) (Ev.bind (turn_ok F (-a)) (Ev.bind (mirror_ok F2) ?_)))))))) 
      simp only [if_true]
      refine Ev.bind (same_tab (rotN_fits _ _ F1) ?_) ?_
      · rw [rotN_add]
        exact rotN_eq X (by omega)
      simp only [if_true]
      refine Ev.bind (same_tab (y := X) (rotN_fits _ _ F1) ?_) ?_
      · rw [rotN_add]
        exact rotN_eq (n := 0) X (by omega)
      simp only [if_true]
      refine Ev.bind (same_tab (y := X) (rotN_fits _ _ F) ?_) ?_
      · rfl
      simp only [if_true]
      refine Ev.bind (same_tab (x := mir (mir X)) (y := X) F (mir_mir X)) ?_
      simp only [if_true]
      refine Ev.bind (same_tab (x := rotN (a % 4).toNat (mir X)) (y := mir (rotN ((-a) % 4).toNat X)) (rotN_fits _ _ (mir_fits F)) ?_) ?_
      · rw [rotN_mir]
        exact congrArg mir (rotN_eq X (by omega))
      simp only [if_true]
      exact he
    · refine Ev.bind ⟨0, fun k _ => turn_bad V a k⟩ ?_
      simp only [check_eq, if_neg V, Option.bind_some, if_true, if_neg (show ¬ (1 : Int) = 0 by decide)]
      exact he
end Go.Proofs.Ytcmcmoaikabfoaa.Pure
