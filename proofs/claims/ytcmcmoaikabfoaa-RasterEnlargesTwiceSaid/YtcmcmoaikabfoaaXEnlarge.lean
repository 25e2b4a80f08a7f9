/-
Enlarge and its reference answer the table of the pixels at the quotients. Conditions: as each theorem says.
-/
import Derived.Test.YtcmcmoaikabfoaaXBase
import Derived.Test.YtcmcmoaikabfoaaPRx23
namespace Go.Proofs.Ytcmcmoaikabfoaa.Pure
set_option linter.unusedVariables false
set_option linter.unusedSimpArgs false
open Go.RowKit Go.Proofs.Ytcmcmoaikabfoaa.PR Go.Proofs.YtcmcmoaikabfoaaW.PrintWords Go.Proofs.YtcmcmoaikabfoaaW.PrintLast Go.Proofs.YtcmcmoaikabfoaaW.PrintMore Go.Proofs.Ytcmcmoaikabfoaa.XWords Go.Proofs.Ytcmcmoaikabfoaa.XPure

/-- What Enlarge answers where nothing is wrong. -/
def enlargeOf (w h : Int) (l : List Bool) (K : Int) : List Bool := upto (K * w) (fun u v => pix false w h l (u / K) (v / K)) (K * w * (K * h)).toNat
/-- The error of Enlarge. -/
def enlargeErr (w h : Int) (l : List Bool) (K : Int) : Int := if ¬ Valid w h l.length then 1 else if K < 1 ∨ K > 4096 then 3 else 4
theorem quot_in {K w u : Int} (hK : 1 ≤ K) (h0 : 0 ≤ u) (h1 : u < K * w) : 0 ≤ u / K ∧ u / K < w ∧ Int.tdiv u K = u / K := by
  refine ⟨Int.ediv_nonneg h0 (by omega), Int.ediv_lt_of_lt_mul (by omega) (by rw [Int.mul_comm]; exact h1), Int.tdiv_eq_ediv_of_nonneg h0⟩
theorem scaled {K w : Int} (h1 : 1 ≤ w) (h2 : w ≤ 4096) (h3 : 1 ≤ K) (h4 : K ≤ 4096) : wrap64 (K * w) = K * w := w64_mul h3 h4 h1 h2

theorem enlarge_ok {w h : Int} {l : List Bool} {K : Int} (V : Valid w h l.length) (h1 : 1 ≤ K) (h2 : K ≤ 4096) (F : Fits (K * w) (K * h)) : Ev (fun k => raster_Enlarge.f k w h l K) (K * w, K * h, enlargeOf w h l K, 0) := by
  unfold raster_Enlarge.f
  obtain ⟨⟨F1, F2, F3, F4, F5⟩, hl⟩ := id V
  obtain ⟨G1, G2, G3, G4, G5⟩ := id F
  rw [check_eq, if_pos V]
  simp only [Option.bind_some, if_true]
  have hk1 : ¬ K < 1 := by omega
  have hk2 : decide (K > 4096) = false := decide_eq_false (by omega)
  simp only [if_neg hk1, hk2]
  refine Ev.step (f := fun k => raster_Enlarge.l0 k K (K * h) 0 w h l (K * w) (K * h) []) (fun k => ?_) ?_
  · simp only [raster_Enlarge.j0, scaled F1 F2 h1 h2, scaled F3 F4 h1 h2, possible_eq, decide_eq_true F]
    rfl
  unfold enlargeOf
  refine ev_table (K * w) (K * h) (by omega) (by omega) (fun u v => pix false w h l (u / K) (v / K)) (fun k v acc => raster_Enlarge.l0 k K (K * h) v w h l (K * w) (K * h) acc) (fun k v u acc => raster_Enlarge.l1 k K v (K * h) v (K * w) u w h l (K * w) (K * h) acc) (fun acc => (K * w, K * h, acc, 0)) ?_ ?_ ?_ ?_
  · intro k v acc hv0 hv
    simp only [raster_Enlarge.l0]
    rw [if_pos hv]
  · intro k v u acc hv0 hv hu0 hu hal
    have := row_lt (w := K * w) (h := K * h) hu hu0 hv hv0
    obtain ⟨a1, a2, a3⟩ := quot_in h1 hu0 hu
    obtain ⟨b1, b2, b3⟩ := quot_in h1 hv0 hv
    obtain ⟨z1, z2, z3, z4, z5, _⟩ := V.spot a1 a2 b1 b2
    have e1 : wrap64 (u / K) = u / K := w64 (by omega)
    have e2 : wrap64 (v / K) = v / K := w64 (by omega)
    simp only [raster_Enlarge.l1, a3, b3, e1, e2, z1, z2]
    rw [if_pos hu, if_neg (by omega), if_pos z4, if_pos z5, if_pos (by omega), w64 (by omega), pix_in a1 a2 b1 b2]
    rfl
  · intro k v acc hv0 hv
    simp only [raster_Enlarge.l1]
    rw [if_neg (by omega), w64 (by omega)]
  · intro k acc
    simp only [raster_Enlarge.l0]
    rw [if_neg (by omega)]
theorem enlarge_bad {w h : Int} {l : List Bool} {K : Int} (B : ¬ (Valid w h l.length ∧ 1 ≤ K ∧ K ≤ 4096 ∧ Fits (K * w) (K * h))) : Ev (fun k => raster_Enlarge.f k w h l K) (0, 0, [], enlargeErr w h l K) := by
  unfold raster_Enlarge.f enlargeErr
  rw [check_eq]
  by_cases V : Valid w h l.length
  · obtain ⟨⟨F1, F2, F3, F4, F5⟩, hl⟩ := id V
    rw [if_pos V, if_neg (fun hh => hh V)]
    simp only [Option.bind_some, if_true]
    by_cases h1 : K < 1
    · simp only [if_pos h1]
      rw [if_pos (Or.inl h1)]
      exact ev_end (fun k => by simp [raster_Enlarge.j0])
    · simp only [if_neg h1]
      by_cases h2 : K > 4096
      · rw [decide_eq_true h2, if_pos (Or.inr h2)]
        exact ev_end (fun k => by simp [raster_Enlarge.j0])
      · have F : ¬ Fits (K * w) (K * h) := fun F => B ⟨V, by omega, by omega, F⟩
        rw [decide_eq_false h2, if_neg (by omega)]
        refine ev_end (fun k => ?_)
        simp only [raster_Enlarge.j0, scaled F1 F2 (show 1 ≤ K by omega) (show K ≤ 4096 by omega), scaled F3 F4 (show 1 ≤ K by omega) (show K ≤ 4096 by omega), possible_eq, decide_eq_false F]
        rfl
  · rw [if_neg V, if_pos V]
    exact Ev.now _
theorem enlarge_some (w h : Int) (l : List Bool) (K : Int) : ∃ r : Int × Int × List Bool × Int, Ev (fun k => raster_Enlarge.f k w h l K) r := by
  by_cases B : Valid w h l.length ∧ 1 ≤ K ∧ K ≤ 4096 ∧ Fits (K * w) (K * h)
  · exact ⟨_, enlarge_ok B.1 B.2.1 B.2.2.1 B.2.2.2⟩
  · exact ⟨_, enlarge_bad B⟩
end Go.Proofs.Ytcmcmoaikabfoaa.Pure
