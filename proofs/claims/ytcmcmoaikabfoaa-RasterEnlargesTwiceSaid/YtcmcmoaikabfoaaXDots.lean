/-
The dark pixels of a bitmap and the box around them. Conditions: as each theorem says.
-/
import Derived.Test.YtcmcmoaikabfoaaXBase
namespace Go.Proofs.Ytcmcmoaikabfoaa.Pure
set_option linter.unusedVariables false
set_option linter.unusedSimpArgs false
open Go.RowKit Go.Proofs.Ytcmcmoaikabfoaa.PR Go.Proofs.YtcmcmoaikabfoaaW.PrintWords Go.Proofs.YtcmcmoaikabfoaaW.PrintLast Go.Proofs.YtcmcmoaikabfoaaW.PrintMore Go.Proofs.Ytcmcmoaikabfoaa.XWords Go.Proofs.Ytcmcmoaikabfoaa.XPure
open Go.Proofs.Ytcmcmoaikabfoaa.XPixels (dots bstep bout)

theorem mem_dots {w : Int} {l : List Bool} {n : Nat} {p : Int × Int} : p ∈ dots w l n ↔ ∃ i : Nat, i < n ∧ l.getD i false = true ∧ p = ((i : Int) % w, (i : Int) / w) := by
  induction n with
  | zero => simp [dots]
  | succ n ih =>
    simp only [dots, List.mem_append, ih]
    constructor
    · rintro (⟨i, hi, h1, h2⟩ | h)
      · exact ⟨i, by omega, h1, h2⟩
      · by_cases hd : l.getD n false = true
        · rw [if_pos hd] at h
          exact ⟨n, by omega, hd, by simpa using h⟩
        · rw [if_neg hd] at h
          simp at h
    · rintro ⟨i, hi, h1, h2⟩
      by_cases hin : i < n
      · exact .inl ⟨i, hin, h1, h2⟩
      · have : i = n := by omega
        subst this
        right
        rw [if_pos h1]
        simpa using h2
/-- The dark pixels by their places. -/
theorem mem_dots_pix {w h : Int} {l : List Bool} (V : Valid w h l.length) {x y : Int} : (x, y) ∈ dots w l l.length ↔ pix false w h l x y = true := by
  obtain ⟨⟨F1, F2, F3, F4, F5⟩, hl⟩ := id V
  rw [mem_dots]
  constructor
  · rintro ⟨i, hi, hd, he⟩
    injection he with hx hy
    have b0 := Int.emod_nonneg (i : Int) (show w ≠ 0 by omega)
    have b1 := Int.emod_lt_of_pos (i : Int) (show 0 < w by omega)
    have b2 : 0 ≤ (i : Int) / w := Int.ediv_nonneg (by omega) (by omega)
    have b3 : (i : Int) / w < h := div_lt (by omega) (by omega)
    rw [hx, hy, pix_in b0 b1 b2 b3, mod_div (by omega), Int.toNat_natCast]
    exact hd
  · intro hp
    by_cases hin : 0 ≤ x ∧ x < w ∧ 0 ≤ y ∧ y < h
    · obtain ⟨h1, h2, h3, h4⟩ := hin
      obtain ⟨_, _, _, e4, e5, _⟩ := V.spot h1 h2 h3 h4
      rw [pix_in h1 h2 h3 h4] at hp
      refine ⟨(y * w + x).toNat, by omega, hp, ?_⟩
      rw [Int.toNat_of_nonneg e4, row_mod h1 h2, row_div h1 h2]
    · rw [pix_out hin] at hp
      cases hp

/-- The box of the points seen. -/
def Boxed (w h : Int) (ps : List (Int × Int)) (s : Int × Int × Int × Int) : Prop :=
  (ps = [] ∧ s = (w, h, -1, -1)) ∨ ((∀ p ∈ ps, s.1 ≤ p.1 ∧ p.1 ≤ s.2.2.1 ∧ s.2.1 ≤ p.2 ∧ p.2 ≤ s.2.2.2) ∧ (∃ p ∈ ps, p.1 = s.1) ∧ (∃ p ∈ ps, p.1 = s.2.2.1) ∧ (∃ p ∈ ps, p.2 = s.2.1) ∧ ∃ p ∈ ps, p.2 = s.2.2.2)
theorem boxed_step {w h : Int} {ps : List (Int × Int)} {s : Int × Int × Int × Int} (B : Boxed w h ps s) {p : Int × Int} (hp : 0 ≤ p.1 ∧ p.1 < w ∧ 0 ≤ p.2 ∧ p.2 < h) : Boxed w h (ps ++ [p]) (bstep s p) := by
  right
  rcases B with ⟨rfl, rfl⟩ | ⟨h1, h2, h3, h4, h5⟩
  · simp only [bstep, mn, mx, List.nil_append, List.mem_singleton]
    rw [if_pos hp.2.1, if_pos hp.2.2.2, if_pos (show (-1 : Int) < p.1 by omega), if_pos (show (-1 : Int) < p.2 by omega)]
    exact ⟨fun q hq => by rw [hq]; omega, ⟨p, rfl, rfl⟩, ⟨p, rfl, rfl⟩, ⟨p, rfl, rfl⟩, ⟨p, rfl, rfl⟩⟩
  · have old : ∀ {f : Int × Int → Int} {a : Int}, (∃ q ∈ ps, f q = a) → ∃ q ∈ ps ++ [p], f q = a := fun ⟨q, hq, e⟩ => ⟨q, List.mem_append.2 (.inl hq), e⟩
    have new : ∀ {f : Int × Int → Int} {a : Int}, f p = a → ∃ q ∈ ps ++ [p], f q = a := fun e => ⟨p, List.mem_append.2 (.inr (List.mem_singleton.2 rfl)), e⟩
    simp only [bstep, mn, mx]
    refine ⟨fun q hq => ?_, ?_, ?_, ?_, ?_⟩
    · rcases List.mem_append.1 hq with hq | hq
      · have := h1 q hq
        refine ⟨?_, ?_, ?_, ?_⟩ <;> split <;> omega
      · rw [List.mem_singleton.1 hq]
        refine ⟨?_, ?_, ?_, ?_⟩ <;> split <;> omega
    · split
      · exact new (f := fun q => q.1) rfl
      · exact old (f := fun q => q.1) h2
    · split
      · exact new (f := fun q => q.1) rfl
      · exact old (f := fun q => q.1) h3
    · split
      · exact new (f := fun q => q.2) rfl
      · exact old (f := fun q => q.2) h4
    · split
      · exact new (f := fun q => q.2) rfl
      · exact old (f := fun q => q.2) h5
theorem boxed_fold {w h : Int} (qs : List (Int × Int)) : ∀ (ps : List (Int × Int)) (s : Int × Int × Int × Int), Boxed w h ps s → (∀ p ∈ qs, 0 ≤ p.1 ∧ p.1 < w ∧ 0 ≤ p.2 ∧ p.2 < h) → Boxed w h (ps ++ qs) (qs.foldl bstep s) := by
  induction qs with
  | nil => intro ps s B _; simpa using B
  | cons q qs ih =>
    intro ps s B hq
    have := ih (ps ++ [q]) (bstep s q) (boxed_step B (hq q (List.mem_cons_self ..))) (fun p hp => hq p (List.mem_cons_of_mem _ hp))
    simpa using this
theorem boxed_dots {w h : Int} {l : List Bool} (V : Valid w h l.length) : Boxed w h (dots w l l.length) ((dots w l l.length).foldl bstep (w, h, -1, -1)) := by
  have := boxed_fold (w := w) (h := h) (dots w l l.length) [] (w, h, -1, -1) (.inl ⟨rfl, rfl⟩) (fun p hp => by
    obtain ⟨x, y⟩ := p
    have := (mem_dots_pix V).1 hp
    by_cases hin : 0 ≤ x ∧ x < w ∧ 0 ≤ y ∧ y < h
    · exact hin
    · rw [pix_out hin] at this
      cases this)
  simpa using this
theorem bounds_eq {w h : Int} {l : List Bool} (V : Valid w h l.length) : raster_Bounds.f w h l = some (bout ((dots w l l.length).foldl bstep (w, h, -1, -1))) := by
  unfold raster_Bounds.f
  have := V.2
  have := V.1.2.2.2.2
  rw [if_pos (by omega), check_eq, if_pos V]
  rfl
end Go.Proofs.Ytcmcmoaikabfoaa.Pure
