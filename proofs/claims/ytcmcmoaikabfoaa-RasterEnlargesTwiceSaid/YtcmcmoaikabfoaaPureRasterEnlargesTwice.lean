/-
RasterEnlargesTwice over numbers and rows: two enlargements are one, and the box is enlarged. Conditions: none.
-/
import Derived.Test.YtcmcmoaikabfoaaStmtRasterEnlargesTwice
import Derived.Test.YtcmcmoaikabfoaaXEnlarge
import Derived.Test.YtcmcmoaikabfoaaXDots
namespace Go.Proofs.Ytcmcmoaikabfoaa.Pure
set_option linter.unusedVariables false
open Go.RowKit Go.Proofs.Ytcmcmoaikabfoaa.PR Go.Proofs.YtcmcmoaikabfoaaW.PrintWords Go.Proofs.YtcmcmoaikabfoaaW.PrintLast Go.Proofs.YtcmcmoaikabfoaaW.PrintMore Go.Proofs.Ytcmcmoaikabfoaa.XWords Go.Proofs.Ytcmcmoaikabfoaa.XPure
open Go.Proofs.Ytcmcmoaikabfoaa.XPixels (dots bstep bout)

theorem enlargeOf_length {w h : Int} {l : List Bool} {K : Int} (F : Fits (K * w) (K * h)) : Valid (K * w) (K * h) (enlargeOf w h l K).length := by
  refine ⟨F, ?_⟩
  have := F.pos
  rw [enlargeOf, upto_length]
  omega
theorem pix_enlarge {w h : Int} {l : List Bool} {K : Int} (hK : 1 ≤ K) (F : Fits (K * w) (K * h)) (x y : Int) : pix false (K * w) (K * h) (enlargeOf w h l K) x y = pix false w h l (x / K) (y / K) := by
  by_cases hin : 0 ≤ x ∧ x < K * w ∧ 0 ≤ y ∧ y < K * h
  · obtain ⟨h1, h2, h3, h4⟩ := hin
    have hlt := row_lt (w := K * w) (h := K * h) h2 h1 h4 h3
    rw [pix_in h1 h2 h3 h4, enlargeOf, upto_getD h1 h2 h3 (by omega)]
  · rw [pix_out hin, pix_out]
    rintro ⟨h1, h2, h3, h4⟩
    apply hin
    have a : ∀ {x w : Int}, 0 ≤ x / K → x / K < w → 0 ≤ x ∧ x < K * w := fun {x w} h1 h2 => by
      have e := Int.mul_ediv_add_emod x K
      have e1 := Int.emod_nonneg x (show K ≠ 0 by omega)
      have e2 := Int.emod_lt_of_pos x (show 0 < K by omega)
      have e3 : 0 ≤ K * (x / K) := Int.mul_nonneg (by omega) h1
      have e4 : K * (x / K + 1) ≤ K * w := Int.mul_le_mul_of_nonneg_left (by omega) (by omega)
      rw [Int.mul_add, Int.mul_one] at e4
      omega
    exact ⟨(a h1 h2).1, (a h1 h2).2, (a h3 h4).1, (a h3 h4).2⟩
theorem pix_true {w h : Int} {l : List Bool} {x y : Int} (h0 : pix false w h l x y = true) : 0 ≤ x ∧ x < w ∧ 0 ≤ y ∧ y < h := by
  by_cases hin : 0 ≤ x ∧ x < w ∧ 0 ≤ y ∧ y < h
  · exact hin
  · rw [pix_out hin] at h0
    cases h0
theorem enlarge_twice {w h : Int} {l : List Bool} {A B : Int} (hA : 1 ≤ A) (hB : 1 ≤ B) (F : Fits (A * w) (A * h)) : enlargeOf (A * w) (A * h) (enlargeOf w h l A) B = enlargeOf w h l (A * B) := by
  have e : ∀ x : Int, B * (A * x) = A * B * x := fun x => by rw [← Int.mul_assoc, Int.mul_comm B A]
  unfold enlargeOf
  rw [e, e]
  apply upto_congr
  intro i _
  show pix false (A * w) (A * h) (enlargeOf w h l A) _ _ = _
  rw [pix_enlarge hA F, Int.ediv_ediv_of_nonneg (by omega), Int.ediv_ediv_of_nonneg (by omega), Int.mul_comm B A]

/-- The box of the enlarged points. -/
theorem boxed_scaled {w h : Int} {ps qs : List (Int × Int)} {s t : Int × Int × Int × Int} {K : Int} (hK : 1 ≤ K) (hps : ∀ p ∈ ps, 0 ≤ p.1 ∧ 0 ≤ p.2)
    (P : Boxed w h ps s) (Q : Boxed (K * w) (K * h) qs t) (h1 : ∀ x y a b, (x, y) ∈ ps → 0 ≤ a → a < K → 0 ≤ b → b < K → (K * x + a, K * y + b) ∈ qs) (h2 : ∀ x y, (x, y) ∈ qs → (x / K, y / K) ∈ ps) :
    (ps = [] ∧ s = (w, h, -1, -1) ∧ t = (K * w, K * h, -1, -1)) ∨ (0 ≤ s.2.2.1 ∧ 0 ≤ s.1 ∧ 0 ≤ s.2.1 ∧ 0 ≤ s.2.2.2 ∧ t.1 = K * s.1 ∧ t.2.1 = K * s.2.1 ∧ t.2.2.1 = K * s.2.2.1 + (K - 1) ∧ t.2.2.2 = K * s.2.2.2 + (K - 1)) := by
  have fl : ∀ x : Int, K * (x / K) ≤ x ∧ x ≤ K * (x / K) + (K - 1) := fun x => by
    have e := Int.mul_ediv_add_emod x K
    have e1 := Int.emod_nonneg x (show K ≠ 0 by omega)
    have e2 := Int.emod_lt_of_pos x (show 0 < K by omega)
    omega
  have mono : ∀ {x y : Int}, x ≤ y → K * x ≤ K * y := fun hxy => Int.mul_le_mul_of_nonneg_left hxy (by omega)
  rcases P with ⟨p1, p2⟩ | ⟨p1, ⟨⟨ax, ay⟩, ha, ea⟩, ⟨⟨bx, by'⟩, hb, eb⟩, ⟨⟨cx, cy⟩, hc, ec⟩, ⟨dx, dy⟩, hd, ed⟩
  · rcases Q with ⟨q1, q2⟩ | ⟨_, ⟨⟨ax, ay⟩, ha, ea⟩, _⟩
    · exact .inl ⟨p1, p2, q2⟩
    · have := h2 _ _ ha
      rw [p1] at this
      cases this
  · right
    rcases Q with ⟨q1, q2⟩ | ⟨q1, ⟨⟨ex, ey⟩, he, ee⟩, ⟨⟨fx, fy⟩, hf, ef⟩, ⟨⟨gx, gy⟩, hg, eg⟩, ⟨ix, iy⟩, hi, ei⟩
    · have := h1 _ _ 0 0 ha (by omega) (by omega) (by omega) (by omega)
      rw [q1] at this
      cases this
    · simp only at ea eb ec ed ee ef eg ei
      have k1 := q1 _ (h1 _ _ 0 0 ha (by omega) (by omega) (by omega) (by omega))
      have k2 := q1 _ (h1 _ _ (K - 1) 0 hb (by omega) (by omega) (by omega) (by omega))
      have k3 := q1 _ (h1 _ _ 0 0 hc (by omega) (by omega) (by omega) (by omega))
      have k4 := q1 _ (h1 _ _ 0 (K - 1) hd (by omega) (by omega) (by omega) (by omega))
      have l1 := p1 _ (h2 _ _ he)
      have l2 := p1 _ (h2 _ _ hf)
      have l3 := p1 _ (h2 _ _ hg)
      have l4 := p1 _ (h2 _ _ hi)
      have n1 := hps _ ha
      have n2 := hps _ hb
      have n3 := hps _ hc
      have n4 := hps _ hd
      have m1 := mono l1.1
      have m2 := mono l2.2.1
      have m3 := mono l3.2.2.1
      have m4 := mono l4.2.2.2
      have f1 := fl ex
      have f2 := fl fx
      have f3 := fl gy
      have f4 := fl iy
      simp only at k1 k2 k3 k4 l1 l2 l3 l4 n1 n2 n3 n4 m1 m2 m3 m4
      rw [ea] at k1 n1
      rw [eb] at k2 n2
      rw [ec] at k3 n3
      rw [ed] at k4 n4
      rw [ee] at f1 m1
      rw [ef] at f2 m2
      rw [eg] at f3 m3
      rw [ei] at f4 m4
      omega
theorem bounds_enlarged {w h : Int} {l : List Bool} {K : Int} (V : Valid w h l.length) (hK : 1 ≤ K) (F : Fits (K * w) (K * h)) : ∃ x y W H ok, raster_Bounds.f w h l = some (x, y, W, H, ok) ∧ raster_Bounds.f (K * w) (K * h) (enlargeOf w h l K) = some (K * x, K * y, K * W, K * H, ok) ∧ wrap64 (K * x) = K * x ∧ wrap64 (K * y) = K * y ∧ wrap64 (K * W) = K * W ∧ wrap64 (K * H) = K * H := by
  have V' := enlargeOf_length (l := l) F
  obtain ⟨⟨F1, F2, F3, F4, F5⟩, hl⟩ := id V
  obtain ⟨G1, G2, G3, G4, G5⟩ := id F
  rw [bounds_eq V, bounds_eq V']
  have P := boxed_dots V
  have Q := boxed_dots V'
  have hps : ∀ p ∈ dots w l l.length, 0 ≤ p.1 ∧ p.1 < w ∧ 0 ≤ p.2 ∧ p.2 < h := fun p hp => by
    obtain ⟨x, y⟩ := p
    exact pix_true ((mem_dots_pix V).1 hp)
  have S := boxed_scaled hK (fun p hp => ⟨(hps p hp).1, (hps p hp).2.2.1⟩) P Q (fun x y a b hp a0 a1 b0 b1 => by
    rw [mem_dots_pix V', pix_enlarge hK F]
    have e1 : (K * x + a) / K = x := by
      rw [Int.add_comm, Int.add_mul_ediv_left _ _ (by omega), Int.ediv_eq_zero_of_lt a0 a1]
      omega
    have e2 : (K * y + b) / K = y := by
      rw [Int.add_comm, Int.add_mul_ediv_left _ _ (by omega), Int.ediv_eq_zero_of_lt b0 b1]
      omega
    rw [e1, e2]
    exact (mem_dots_pix V).1 hp) (fun x y hq => by
    rw [mem_dots_pix V]
    rw [mem_dots_pix V', pix_enlarge hK F] at hq
    exact hq)
  generalize (dots w l l.length).foldl bstep (w, h, -1, -1) = s at *
  generalize (dots (K * w) (enlargeOf w h l K) (enlargeOf w h l K).length).foldl bstep (K * w, K * h, -1, -1) = t at *
  obtain ⟨L, T, R, B⟩ := s
  obtain ⟨L', T', R', B'⟩ := t
  rcases S with ⟨e0, e1, e2⟩ | ⟨s0, s1, s2, s3, e1, e2, e3, e4⟩
  · injection e1 with _ e1; injection e1 with _ e1; injection e1 with e1 _
    injection e2 with _ e2; injection e2 with _ e2; injection e2 with e2 _
    subst e1; subst e2
    refine ⟨0, 0, 0, 0, false, rfl, ?_, ?_, ?_, ?_, ?_⟩ <;> simp [bout, wrap64]
  · simp only at s0 s1 s2 s3 e1 e2 e3 e4
    have hb : R < w ∧ B < h ∧ L ≤ R ∧ T ≤ B := by
      rcases P with ⟨_, p2⟩ | ⟨p1, ⟨a, ha, ea⟩, ⟨b, hb, eb⟩, ⟨c, hc, ec⟩, d, hd, ed⟩
      · injection p2 with _ p2; injection p2 with _ p2; injection p2 with p2 _
        omega
      · have := p1 a ha
        have := p1 c hc
        have := hps b hb
        have := hps d hd
        simp only at *
        omega
    obtain ⟨b1, b2, b3, b4⟩ := hb
    have bd : ∀ {x w : Int}, 0 ≤ x → x ≤ w → K * w ≤ 4096 → 0 ≤ K * x ∧ K * x ≤ 4096 := fun {x w} h0 h1 h2 => by
      have := Int.mul_nonneg (show 0 ≤ K by omega) h0
      have := Int.mul_le_mul_of_nonneg_left h1 (show 0 ≤ K by omega)
      omega
    have m1 := bd s1 (show L ≤ w by omega) G2
    have m2 := bd s2 (show T ≤ h by omega) G4
    have m3 := bd (show 0 ≤ R - L + 1 by omega) (show R - L + 1 ≤ w by omega) G2
    have m4 := bd (show 0 ≤ B - T + 1 by omega) (show B - T + 1 ≤ h by omega) G4
    have m5 := bd s0 (show R ≤ w by omega) G2
    have m6 := bd s3 (show B ≤ h by omega) G4
    have d3 : K * (R - L + 1) = K * R - K * L + K := by rw [Int.mul_add, Int.mul_sub, Int.mul_one]
    have d4 : K * (B - T + 1) = K * B - K * T + K := by rw [Int.mul_add, Int.mul_sub, Int.mul_one]
    refine ⟨L, T, R - L + 1, B - T + 1, true, ?_, ?_, w64 (by omega), w64 (by omega), w64 (by omega), w64 (by omega)⟩
    · unfold bout
      simp only
      rw [if_neg (by omega), w64 (n := R - L) (by omega), w64 (n := R - L + 1) (by omega), w64 (n := B - T) (by omega), w64 (n := B - T + 1) (by omega)]
    · unfold bout
      simp only
      rw [if_neg (by omega), w64 (n := R' - L') (by omega), w64 (n := R' - L' + 1) (by omega), w64 (n := B' - T') (by omega), w64 (n := B' - T' + 1) (by omega), e1, e2, d3, d4, e3, e4]
      congr 4
      · omega
      · congr 1
        omega
theorem RasterEnlargesTwice : barscanlaw31_RasterEnlargesTwice.Pure := by
  intro w h l j k _ _ hl wj wk
  refine Ev.rounds (g := fun n => barscanlaw31_RasterEnlargesTwice.f n w h l j k) ?_
  unfold barscanlaw31_RasterEnlargesTwice.f
  simp only [check_eq, Option.bind_some]
  by_cases V : Valid w h l.length
  · simp only [if_pos V, if_true]
    have hj : 0 ≤ j := (wf_u8 wj).1
    have hk : 0 ≤ k := (wf_u8 wk).1
    have a1 := Int.emod_nonneg j (show (8 : Int) ≠ 0 by decide)
    have a2 := Int.emod_lt_of_pos j (show (0 : Int) < 8 by decide)
    have b1 := Int.emod_nonneg k (show (8 : Int) ≠ 0 by decide)
    have b2 := Int.emod_lt_of_pos k (show (0 : Int) < 8 by decide)
    have ej : wrap64 (wrap64 (Int.tmod j 8) + 1) = j % 8 + 1 := by
      rw [Int.tmod_eq_emod_of_nonneg hj, w64 (n := j % 8) (by omega), w64 (by omega)]
    have ek : wrap64 (wrap64 (Int.tmod k 8) + 1) = k % 8 + 1 := by
      rw [Int.tmod_eq_emod_of_nonneg hk, w64 (n := k % 8) (by omega), w64 (by omega)]
    rw [ej, ek]
    by_cases h1 : (l.length : Int) > 40000
    · simp only [if_pos h1]
      exact Ev.bind examples_ok (Ev.now _)
    simp only [if_neg h1]
    generalize hA : j % 8 + 1 = A
    generalize hB : k % 8 + 1 = B
    by_cases h2 : wrap64 (wrap64 (wrap64 (wrap64 ((l.length : Int) * A) * A) * B) * B) > 40000
    · simp only [if_pos h2]
      exact Ev.bind examples_ok (Ev.now _)
    simp only [if_neg h2]
    clear h2
    have hA1 : 1 ≤ A := by omega
    have hA2 : A ≤ 8 := by omega
    have hB1 : 1 ≤ B := by omega
    have hB2 : B ≤ 8 := by omega
    have hAB := mul_bound hA1 (show A ≤ 4096 by omega) hB1 (show B ≤ 4096 by omega)
    have hAB2 : A * B ≤ 64 := Int.mul_le_mul hA2 hB2 (by omega) (by omega)
    rw [w64 (n := A * B) (by omega)]
    obtain ⟨⟨F1, F2, F3, F4, F5⟩, hwl⟩ := id V
    by_cases G : Fits (A * B * w) (A * B * h)
    · have up : ∀ {x : Int}, 1 ≤ x → A * x ≤ A * B * x ∧ 1 ≤ A * x := fun {x} hx => by
        have hx1 : 1 ≤ A * x := Int.le_trans (show (1 : Int) ≤ 1 * 1 by decide) (Int.mul_le_mul hA1 hx (by omega) (by omega))
        have : A * x * 1 ≤ A * x * B := Int.mul_le_mul_of_nonneg_left hB1 (by omega)
        rw [Int.mul_one, Int.mul_assoc, Int.mul_comm x B, ← Int.mul_assoc] at this
        exact ⟨this, hx1⟩
      obtain ⟨G1, G2, G3, G4, G5⟩ := id G
      have u1 := up F1
      have u2 := up F3
      have hp : A * w * (A * h) ≤ A * B * w * (A * B * h) := Int.mul_le_mul u1.1 u2.1 (by omega) (by omega)
      have F : Fits (A * w) (A * h) := ⟨u1.2, by omega, u2.2, by omega, by omega⟩
      have e : ∀ x : Int, B * (A * x) = A * B * x := fun x => by rw [← Int.mul_assoc, Int.mul_comm B A]
      have G' : Fits (B * (A * w)) (B * (A * h)) := by rw [e, e]; exact G
      refine Ev.bind (enlarge_ok V hA1 (by omega) F) ?_
      refine Ev.bind (enlarge_ok (enlargeOf_length F) hB1 (by omega) G') ?_
      refine Ev.bind (enlarge_ok V (by omega) (by omega) G) ?_
      have n04 : ¬ (0 : Int) = 4 := by decide
      simp only [if_neg n04]
      obtain ⟨x, y, W, H, ok, e1, e2, e3, e4, e5, e6⟩ := bounds_enlarged (l := l) V hA1 F
      simp only [e1, e2, Option.bind_some, if_true, e3, e4, e5, e6, beq_self_eq_true, Bool.and_self]
      rw [enlarge_twice hA1 hB1 F, e, e]
      refine Ev.bind (same_self _ _ _ ?_) ?_
      · rw [enlargeOf, upto_length]
        omega
      · simp only [if_true]
        exact Ev.bind examples_ok (Ev.now _)
    · have hE : ∀ {w h : Int} {l : List Bool} {K : Int}, ∃ r : Int × Int × List Bool × Int, Ev (fun n => raster_Enlarge.f n w h l K) r := fun {w h l K} => enlarge_some w h l K
      obtain ⟨r, hr⟩ := hE (w := w) (h := h) (l := l) (K := A)
      refine Ev.bind hr ?_
      obtain ⟨r', hr'⟩ := hE (w := r.1) (h := r.2.1) (l := r.2.2.1) (K := B)
      refine Ev.bind hr' ?_
      refine Ev.bind (enlarge_bad (K := A * B) (fun hh => G hh.2.2.2)) ?_
      have e4 : enlargeErr w h l (A * B) = 4 := by
        unfold enlargeErr
        rw [if_neg (fun hh => hh V), if_neg (by omega)]
      simp only [e4, if_true]
      exact Ev.bind examples_ok (Ev.now _)
  · simp only [if_neg V]
    exact Ev.bind examples_ok (Ev.now _)
end Go.Proofs.Ytcmcmoaikabfoaa.Pure
