/-
Enlarge and its reference answer the table of the pixels at the quotients. Conditions: as each theorem says.
-/
import Derived.Test.YtcmcmoaikabfoaaXEnlarge
import Derived.Test.YtcmcmoaikabfoaaPRx24
namespace Go.Proofs.Ytcmcmoaikabfoaa.Pure
set_option linter.unusedVariables false
set_option linter.unusedSimpArgs false
open Go.RowKit Go.Proofs.Ytcmcmoaikabfoaa.PR Go.Proofs.YtcmcmoaikabfoaaW.PrintWords Go.Proofs.YtcmcmoaikabfoaaW.PrintLast Go.Proofs.YtcmcmoaikabfoaaW.PrintMore Go.Proofs.Ytcmcmoaikabfoaa.XWords Go.Proofs.Ytcmcmoaikabfoaa.XPure

theorem refEnlarge_ok {w h : Int} {l : List Bool} {K : Int} (V : Valid w h l.length) (h1 : 1 ≤ K) (h2 : K ≤ 4096) (F : Fits (K * w) (K * h)) : Ev (fun k => barscanref31_Enlarge.f k w h l K) (K * w, K * h, enlargeOf w h l K, 0) := by
  unfold barscanref31_Enlarge.f
  obtain ⟨⟨F1, F2, F3, F4, F5⟩, hl⟩ := id V
  obtain ⟨G1, G2, G3, G4, G5⟩ := id F
  rw [valid_eq, decide_eq_true V]
  simp only [Option.bind_some, if_true]
  have hk1 : ¬ K < 1 := by omega
  have hk2 : decide (K > 4096) = false := decide_eq_false (by omega)
  simp only [if_neg hk1, hk2]
  refine Ev.step (f := fun k => barscanref31_Enlarge.l0 k K 0 w h l (K * w) (K * h) []) (fun k => ?_) ?_
  · simp only [barscanref31_Enlarge.j0, scaled F1 F2 h1 h2, scaled F3 F4 h1 h2, fits_eq, decide_eq_true F]
    rfl
  unfold enlargeOf
  refine ev_table (K * w) (K * h) (by omega) (by omega) (fun u v => pix false w h l (u / K) (v / K)) (fun k v acc => barscanref31_Enlarge.l0 k K v w h l (K * w) (K * h) acc) (fun k v u acc => barscanref31_Enlarge.l1 k K v u w h l (K * w) (K * h) acc) (fun acc => (K * w, K * h, acc, 0)) ?_ ?_ ?_ ?_
  · intro k v acc hv0 hv
    simp only [barscanref31_Enlarge.l0]
    rw [if_pos hv]
  · intro k v u acc hv0 hv hu0 hu hal
    have := row_lt (w := K * w) (h := K * h) hu hu0 hv hv0
    obtain ⟨a1, a2, a3⟩ := quot_in h1 hu0 hu
    obtain ⟨b1, b2, b3⟩ := quot_in h1 hv0 hv
    have e1 : wrap64 (u / K) = u / K := w64 (by omega)
    have e2 : wrap64 (v / K) = v / K := w64 (by omega)
    simp only [barscanref31_Enlarge.l1, a3, b3, e1, e2, refAt_eq, if_pos V, Option.bind_some]
    rw [if_pos hu, if_neg (by omega), if_pos (by omega), w64 (by omega)]
  · intro k v acc hv0 hv
    simp only [barscanref31_Enlarge.l1]
    rw [if_neg (by omega), w64 (by omega)]
  · intro k acc
    simp only [barscanref31_Enlarge.l0]
    rw [if_neg (by omega)]
theorem refEnlarge_bad {w h : Int} {l : List Bool} {K : Int} (B : ¬ (Valid w h l.length ∧ 1 ≤ K ∧ K ≤ 4096 ∧ Fits (K * w) (K * h))) : Ev (fun k => barscanref31_Enlarge.f k w h l K) (0, 0, [], enlargeErr w h l K) := by
  unfold barscanref31_Enlarge.f enlargeErr
  rw [valid_eq]
  by_cases V : Valid w h l.length
  · obtain ⟨⟨F1, F2, F3, F4, F5⟩, hl⟩ := id V
    rw [decide_eq_true V, if_neg (fun hh => hh V)]
    simp only [Option.bind_some, if_true]
    by_cases h1 : K < 1
    · simp only [if_pos h1]
      rw [if_pos (Or.inl h1)]
      exact ev_end (fun k => by simp [barscanref31_Enlarge.j0])
    · simp only [if_neg h1]
      by_cases h2 : K > 4096
      · rw [decide_eq_true h2, if_pos (Or.inr h2)]
        exact ev_end (fun k => by simp [barscanref31_Enlarge.j0])
      · have F : ¬ Fits (K * w) (K * h) := fun F => B ⟨V, by omega, by omega, F⟩
        rw [decide_eq_false h2, if_neg (by omega)]
        refine ev_end (fun k => ?_)
        simp only [barscanref31_Enlarge.j0, scaled F1 F2 (show 1 ≤ K by omega) (show K ≤ 4096 by omega), scaled F3 F4 (show 1 ≤ K by omega) (show K ≤ 4096 by omega), fits_eq, decide_eq_false F]
        rfl
  · rw [decide_eq_false V, if_pos V]
    exact Ev.now _
/-- Both answer the same. -/
theorem enlarge_both (w h : Int) (l : List Bool) (K : Int) : ∃ r : Int × Int × List Bool × Int, Ev (fun k => raster_Enlarge.f k w h l K) r ∧ Ev (fun k => barscanref31_Enlarge.f k w h l K) r ∧ r.2.2.1.length ≤ 4194304 := by
  by_cases B : Valid w h l.length ∧ 1 ≤ K ∧ K ≤ 4096 ∧ Fits (K * w) (K * h)
  · refine ⟨_, enlarge_ok B.1 B.2.1 B.2.2.1 B.2.2.2, refEnlarge_ok B.1 B.2.1 B.2.2.1 B.2.2.2, ?_⟩
    simp only [enlargeOf, upto_length]
    have := B.2.2.2.2.2.2.2
    omega
  · exact ⟨_, enlarge_bad B, refEnlarge_bad B, by simp⟩
end Go.Proofs.Ytcmcmoaikabfoaa.Pure
