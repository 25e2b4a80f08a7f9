/-
The places of a seed: what the loops of the program and of the reference compute. Conditions: as each theorem says.
-/
import Derived.Test.YtbipbbckfmilfaaXBase
import Derived.Test.YtbipbbckfmilfaaPRx9
import Derived.Test.YtbipbbckfmilfaaPRx5
import Derived.OpenShut
namespace Go.Proofs.Ytbipbbckfmilfaa.Pure
set_option linter.unusedVariables false
set_option linter.unusedSimpArgs false
open Go.RowKit Go.Proofs.Ytbipbbckfmilfaa.PR Go.Proofs.YtbipbbckfmilfaaW.PrintWords Go.Proofs.YtbipbbckfmilfaaW.PrintLast Go.Proofs.YtbipbbckfmilfaaW.PrintMore Go.Proofs.Ytbipbbckfmilfaa.XWords Go.Proofs.Ytbipbbckfmilfaa.XPure

/-- The state behind a state. -/
def nx (a : Int) : Int := (printing_next.f a).getD 0
theorem next_eq (a : Int) : printing_next.f a = some (nx a) := rfl
theorem nx_range (a : Int) : 0 ≤ nx a ∧ nx a ≤ 4294967295 := by
  have h1 : IntKind.u32.min = 0 := rfl
  have h2 : IntKind.u32.max = 4294967295 := rfl
  unfold nx printing_next.f
  rw [Option.getD_some]
  have h := wf_bits .xor .u32 (Go.bits .xor .u32 (Go.bits .xor .u32 a ((a * 8192) % 4294967296)) ((Go.bits .xor .u32 a ((a * 8192) % 4294967296)) / 131072)) (((Go.bits .xor .u32 (Go.bits .xor .u32 a ((a * 8192) % 4294967296)) ((Go.bits .xor .u32 a ((a * 8192) % 4294967296)) / 131072)) * 32) % 4294967296)
  generalize Go.bits .xor .u32 (Go.bits .xor .u32 (Go.bits .xor .u32 a ((a * 8192) % 4294967296)) ((Go.bits .xor .u32 a ((a * 8192) % 4294967296)) / 131072)) (((Go.bits .xor .u32 (Go.bits .xor .u32 a ((a * 8192) % 4294967296)) ((Go.bits .xor .u32 a ((a * 8192) % 4294967296)) / 131072)) * 32) % 4294967296) = z at h
  simp [Lit.wf] at h
  omega
/-- The first free place from one on, round about. -/
def free (used : List Bool) (size : Int) : Nat → Int → Int
  | 0, a => a
  | k + 1, a => if used.getD a.toNat false = true then free used size k ((a + 1) % size) else a
/-- The state, the places taken and their list behind n steps. -/
def placeSt (size s : Int) : Nat → Int × List Bool × List Int
  | 0 => (s, List.replicate size.toNat false, [])
  | n + 1 => (nx (placeSt size s n).1, (placeSt size s n).2.1.set (free (placeSt size s n).2.1 size size.toNat (nx (placeSt size s n).1 % size)).toNat true, (placeSt size s n).2.2 ++ [free (placeSt size s n).2.1 size size.toNat (nx (placeSt size s n).1 % size)])

theorem exists_free : ∀ (l : List Bool), l.count true < l.length → ∃ j, j < l.length ∧ l.getD j false = false
  | [], h => by simp at h
  | x :: l, h => by
    cases x with
    | false => exact ⟨0, by simp, rfl⟩
    | true =>
      simp only [List.count_cons_self, List.length_cons] at h
      obtain ⟨j, hj, e⟩ := exists_free l (by omega)
      exact ⟨j + 1, by simp; omega, by simpa using e⟩
theorem count_set_true : ∀ (l : List Bool) (j : Nat), j < l.length → l.getD j false = false → (l.set j true).count true = l.count true + 1
  | [], j, h, _ => by simp at h
  | x :: l, 0, _, e => by
    have : x = false := by simpa using e
    subst this
    simp
  | x :: l, j + 1, h, e => by
    have := count_set_true l j (by simpa using h) (by simpa using e)
    simp only [List.set_cons_succ, List.count_cons, this]
    omega
theorem free_of {used : List Bool} {size : Int} (h0 : 0 < size) : ∀ (d m : Nat) (a : Int), 0 ≤ a → a < size → d ≤ m → used.getD ((a + d) % size).toNat false = false →
    0 ≤ free used size m a ∧ free used size m a < size ∧ used.getD (free used size m a).toNat false = false
  | 0, m, a, ha, hb, _, e => by
    have ea : (a + ((0 : Nat) : Int)) % size = a := by
      rw [Int.natCast_zero, Int.add_zero]
      exact Int.emod_eq_of_lt ha hb
    rw [ea] at e
    cases m with
    | zero => exact ⟨ha, hb, e⟩
    | succ m =>
      unfold free
      rw [if_neg (by rw [e]; decide)]
      exact ⟨ha, hb, e⟩
  | d + 1, m, a, ha, hb, hm, e => by
    obtain ⟨m, rfl⟩ : ∃ k, m = k + 1 := ⟨m - 1, by omega⟩
    unfold free
    by_cases c : used.getD a.toNat false = true
    · rw [if_pos c]
      refine free_of h0 d m ((a + 1) % size) (Int.emod_nonneg _ (by omega)) (Int.emod_lt_of_pos _ h0) (by omega) ?_
      rw [Int.emod_add_emod]
      have : a + 1 + (d : Int) = a + ((d + 1 : Nat) : Int) := by omega
      rw [this]
      exact e
    · rw [if_neg c]
      exact ⟨ha, hb, by simpa using c⟩
/-- Some place is free within a round. -/
theorem near_free {used : List Bool} {size a : Int} (h0 : 0 < size) (hl : (used.length : Int) = size) (hc : used.count true < used.length) (ha : 0 ≤ a) (hb : a < size) :
    ∃ d : Nat, d ≤ size.toNat ∧ used.getD ((a + d) % size).toNat false = false := by
  obtain ⟨j, hj, e⟩ := exists_free used hc
  by_cases hja : a ≤ j
  · refine ⟨((j : Int) - a).toNat, by omega, ?_⟩
    have : (a + ((((j : Int) - a).toNat : Nat) : Int)) % size = j := by
      rw [Int.toNat_of_nonneg (by omega)]
      have : a + ((j : Int) - a) = j := by omega
      rw [this]
      exact Int.emod_eq_of_lt (by omega) (by omega)
    rw [this]
    simpa using e
  · refine ⟨((j : Int) - a + size).toNat, by omega, ?_⟩
    have : (a + ((((j : Int) - a + size).toNat : Nat) : Int)) % size = j := by
      rw [Int.toNat_of_nonneg (by omega)]
      have : a + ((j : Int) - a + size) = j + size := by omega
      rw [this, Int.add_emod_right]
      exact Int.emod_eq_of_lt (by omega) (by omega)
    rw [this]
    simpa using e

/-- What holds behind n steps. -/
structure PlInv (size s : Int) (n : Nat) : Prop where
  len : ((placeSt size s n).2.1.length : Int) = size
  cnt : (placeSt size s n).2.1.count true = n
  out : (placeSt size s n).2.2.length = n
  rng : ∀ b ∈ (placeSt size s n).2.2, 0 ≤ b ∧ b < size
  mem : ∀ j : Nat, (placeSt size s n).2.1.getD j false = true ↔ (j : Int) ∈ (placeSt size s n).2.2
  nod : (placeSt size s n).2.2.Nodup
theorem pl_next {size s : Int} {n : Nat} (h0 : 0 < size) (I : PlInv size s n) (hn : (n : Int) < size) :
    0 ≤ free (placeSt size s n).2.1 size size.toNat (nx (placeSt size s n).1 % size) ∧ free (placeSt size s n).2.1 size size.toNat (nx (placeSt size s n).1 % size) < size ∧
    (placeSt size s n).2.1.getD (free (placeSt size s n).2.1 size size.toNat (nx (placeSt size s n).1 % size)).toNat false = false := by
  have h1 := Int.emod_nonneg (nx (placeSt size s n).1) (show size ≠ 0 by omega)
  have h2 := Int.emod_lt_of_pos (nx (placeSt size s n).1) h0
  have hl := I.len
  have hc := I.cnt
  obtain ⟨d, hd, e⟩ := near_free h0 I.len (by omega) h1 h2
  exact free_of h0 d size.toNat _ h1 h2 hd e
theorem getD_set_bool (l : List Bool) (i j : Nat) (hi : i < l.length) : (l.set i true).getD j false = if j = i then true else l.getD j false := by
  simp only [List.getD_eq_getElem?_getD, List.getElem?_set]
  by_cases h : i = j
  · subst h
    rw [if_pos rfl, if_pos hi, if_pos rfl]
    rfl
  · rw [if_neg h, if_neg (fun hh => h hh.symm)]
theorem pl_inv {size s : Int} (h0 : 0 < size) : ∀ n : Nat, (n : Int) ≤ size → PlInv size s n
  | 0, _ => by
    refine ⟨?_, ?_, rfl, by simp [placeSt], ?_, by simp [placeSt]⟩
    · simp only [placeSt, List.length_replicate]; omega
    · simp only [placeSt, List.count_replicate]; simp
    · intro j
      simp only [placeSt, List.not_mem_nil, iff_false]
      rw [getD_replicate]
      decide
  | n + 1, hn => by
    have I := pl_inv (s := s) h0 n (by omega)
    obtain ⟨b0, b1, b2⟩ := pl_next h0 I (by omega)
    have hlen := I.len
    obtain ⟨b, hb⟩ : ∃ b, b = free (placeSt size s n).2.1 size size.toNat (nx (placeSt size s n).1 % size) := ⟨_, rfl⟩
    rw [← hb] at b0 b1 b2
    have e : placeSt size s (n + 1) = (nx (placeSt size s n).1, (placeSt size s n).2.1.set b.toNat true, (placeSt size s n).2.2 ++ [b]) := by rw [hb]; rfl
    have hbl : b.toNat < (placeSt size s n).2.1.length := by omega
    have hnm : b ∉ (placeSt size s n).2.2 := fun hm => by
      have := (I.mem b.toNat).2 (by rw [Int.toNat_of_nonneg b0]; exact hm)
      rw [b2] at this
      cases this
    refine ⟨?_, ?_, ?_, ?_, ?_, ?_⟩ <;> rw [e]
    · simp only [List.length_set]; exact hlen
    · show ((placeSt size s n).2.1.set _ true).count true = n + 1
      rw [count_set_true _ _ hbl b2, I.cnt]
    · show ((placeSt size s n).2.2 ++ [_]).length = n + 1
      rw [List.length_append, I.out]; rfl
    · intro x hx
      rcases List.mem_append.1 hx with hx | hx
      · exact I.rng x hx
      · rw [List.mem_singleton.1 hx]; exact ⟨b0, b1⟩
    · intro j
      show ((placeSt size s n).2.1.set _ true).getD j false = true ↔ _
      rw [getD_set_bool _ _ _ hbl]
      by_cases hj : j = b.toNat
      · rw [if_pos hj]
        simp only [true_iff]
        exact List.mem_append.2 (.inr (List.mem_singleton.2 (by omega)))
      · rw [if_neg hj, I.mem j]
        constructor
        · intro hh; exact List.mem_append.2 (.inl hh)
        · intro hh
          rcases List.mem_append.1 hh with hh | hh
          · exact hh
          · have := List.mem_singleton.1 hh
            omega
    · show ((placeSt size s n).2.2 ++ [_]).Nodup
      rw [List.nodup_append]
      refine ⟨I.nod, by simp, ?_⟩
      intro x hx y hy
      rw [List.mem_singleton.1 hy]
      intro hxb
      exact hnm (hxb ▸ hx)
/-- Fewer places are the first ones. -/
theorem pl_take (size s : Int) (h0 : 0 < size) : ∀ (n j : Nat), (n : Int) ≤ size → j ≤ n → (placeSt size s n).2.2.take j = (placeSt size s j).2.2
  | 0, j, _, hj => by
    have : j = 0 := by omega
    subst this
    rfl
  | n + 1, j, hn, hj => by
    by_cases hjn : j = n + 1
    · subst hjn
      exact List.take_of_length_le (by rw [(pl_inv h0 (n + 1) hn).out]; omega)
    · have ih := pl_take size s h0 n j (by omega) (by omega)
      have ho := (pl_inv (s := s) h0 n (by omega)).out
      rw [← ih]
      show ((placeSt size s n).2.2 ++ [_]).take j = _
      rw [List.take_append_of_le_length (by omega)]
/-- The first state of a seed. -/
def seed0 (a : Int) : Int := if Go.bits .xor .u32 a 2654435769 = 0 then 1 else Go.bits .xor .u32 a 2654435769
/-- The places of a seed. -/
def placesOf (size : Int) (n : Nat) (a : Int) : List Int := (placeSt size (seed0 a) n).2.2

theorem places_l1 {size n i s : Int} {used : List Bool} {out : List Int} {r : List Int} (h0 : 0 < size) (h1 : size ≤ 4194304) (hl : (used.length : Int) = size) (ho : out.length < 17592186044416) (hi0 : 0 ≤ i) (hi : i < 4194304) :
    ∀ (d m : Nat) (a : Int), 0 ≤ a → a < size → d ≤ m → used.getD ((a + d) % size).toNat false = false →
    Ev (fun k => printing_places.l0 k size s (used.set (free used size m a).toNat true) (out ++ [free used size m a]) n (i + 1)) r → Ev (fun k => printing_places.l1 k size s used out a n i) r
  | 0, m, a, ha, hb, _, e, K => by
    have ea : (a + ((0 : Nat) : Int)) % size = a := by
      rw [Int.natCast_zero, Int.add_zero]
      exact Int.emod_eq_of_lt ha hb
    rw [ea] at e
    have ef : free used size m a = a := by
      cases m with
      | zero => rfl
      | succ m =>
        unfold free
        rw [if_neg (by rw [e]; decide)]
    rw [ef] at K
    refine Ev.step (fun k => ?_) K
    simp only [printing_places.l1]
    rw [if_pos ha, if_pos (by omega), if_neg (show ¬ rdOf false used a = true by unfold rdOf; rw [e]; decide), if_pos ho, w64 (n := i + 1) (by omega)]
  | d + 1, m, a, ha, hb, hm, e, K => by
    obtain ⟨m, rfl⟩ : ∃ k, m = k + 1 := ⟨m - 1, by omega⟩
    unfold free at K
    by_cases c : used.getD a.toNat false = true
    · rw [if_pos c] at K
      have ih := places_l1 (s := s) (n := n) h0 h1 hl ho hi0 hi d m ((a + 1) % size) (Int.emod_nonneg _ (by omega)) (Int.emod_lt_of_pos _ h0) (by omega) (by
        rw [Int.emod_add_emod]
        have : a + 1 + (d : Int) = a + ((d + 1 : Nat) : Int) := by omega
        rw [this]
        exact e) K
      refine Ev.step (fun k => ?_) ih
      simp only [printing_places.l1]
      rw [if_pos ha, if_pos (by omega), if_pos (show rdOf false used a = true from c), if_neg (by omega), w64 (n := a + 1) (by omega), Int.tmod_eq_emod_of_nonneg (by omega)]
    · rw [if_neg c] at K
      refine Ev.step (fun k => ?_) K
      simp only [printing_places.l1]
      rw [if_pos ha, if_pos (by omega), if_neg (show ¬ rdOf false used a = true from c), if_pos ho, w64 (n := i + 1) (by omega)]
theorem places_l0 {size n s : Int} (h0 : 0 < size) (h1 : size ≤ 4194304) (hn0 : 0 ≤ n) (hn : n ≤ size) : Ev (fun k => printing_places.l0 k size s (List.replicate size.toNat false) [] n 0) (placeSt size s n.toNat).2.2 := by
  refine ev_loop (fun k i (st : Int × List Bool × List Int) => printing_places.l0 k size st.1 st.2.1 st.2.2 n i) 0 n hn0 (fun i st => st = placeSt size s i.toNat) _ ?_ ?_ (s, List.replicate size.toNat false, []) rfl
  · intro i st hi hin hI K
    have I := pl_inv (s := s) h0 i.toNat (by omega)
    have K1 := K _ (show placeSt size s (i.toNat + 1) = placeSt size s (i + 1).toNat by congr 1; omega)
    rw [hI]
    have hr := nx_range (placeSt size s i.toNat).1
    have e1 := Int.emod_nonneg (nx (placeSt size s i.toNat).1) (show size ≠ 0 by omega)
    have e2 := Int.emod_lt_of_pos (nx (placeSt size s i.toNat).1) h0
    have hlen := I.len
    have hcnt := I.cnt
    obtain ⟨d, hd, e⟩ := near_free h0 I.len (by omega) e1 e2
    refine Ev.step (f := fun k => printing_places.l1 k size (nx (placeSt size s i.toNat).1) (placeSt size s i.toNat).2.1 (placeSt size s i.toNat).2.2 (nx (placeSt size s i.toNat).1 % size) n i) (fun k => ?_) ?_
    · simp only [printing_places.l0, next_eq, Option.bind_some]
      rw [if_pos hin, if_neg (by omega), w64 (n := nx _) (by omega), Int.tmod_eq_emod_of_nonneg (by omega)]
    · exact places_l1 h0 h1 I.len (by rw [I.out]; omega) hi (by omega) d size.toNat _ e1 e2 hd e K1
  · intro st hI
    rw [hI]
    refine ev_end (fun k => ?_)
    simp only [printing_places.l0]
    rw [if_neg (by omega)]
theorem places_ok {size n a : Int} (h0 : 0 < size) (h1 : size ≤ 4194304) (hn0 : 0 ≤ n) (hn : n ≤ size) : Ev (fun k => printing_places.f k size n a) (placesOf size n.toNat a) := by
  have key : Ev (fun k => printing_places.j0 k size n (seed0 a)) (placesOf size n.toNat a) := by
    refine Ev.step (f := fun k => printing_places.l0 k size (seed0 a) (List.replicate size.toNat false) [] n 0) (fun k => ?_) (places_l0 h0 h1 hn0 hn)
    simp only [printing_places.j0]
    rw [if_pos (by omega), if_pos (by omega)]
  unfold printing_places.f
  by_cases c : Go.bits .xor .u32 a 2654435769 = 0
  · simp only [if_pos c]
    unfold seed0 at key
    rw [if_pos c] at key
    exact key
  · simp only [if_neg c]
    unfold seed0 at key
    rw [if_neg c] at key
    exact key
/-- The error of Places. -/
def placesErr (w h n : Int) : Int := if ¬ Fits w h then 23 else if n < 0 ∨ n > mn (w * h) 65536 then 3 else 0
theorem Places_ok {w h n a : Int} : Ev (fun k => printing_Places.f k w h n a) (if placesErr w h n = 0 then placesOf (w * h) n.toNat a else [], placesErr w h n) := by
  have flag : ∀ b : Bool, (b = true ↔ ¬ Fits w h) → Ev (fun k => printing_Places.j0 k w h n a b) (if placesErr w h n = 0 then placesOf (w * h) n.toNat a else [], placesErr w h n) := by
    intro b hb
    by_cases F : Fits w h
    · have hb' : b = false := by
        cases b with
        | false => rfl
        | true => exact absurd F (hb.1 rfl)
      subst hb'
      have hp := F.pos
      have h5 := F.2.2.2.2
      have nF : ¬ ¬ Fits w h := fun hh => hh F
      unfold placesErr
      rw [if_neg nF]
      by_cases c1 : n < 0
      · rw [if_pos (Or.inl c1), if_neg (by decide)]
        exact ev_end (fun k => by simp [printing_Places.j0, c1])
      by_cases c2 : n > mn (w * h) 65536
      · rw [if_pos (Or.inr c2), if_neg (by decide)]
        refine ev_end (fun k => ?_)
        simp only [printing_Places.j0, F.w64, Bool.false_eq_true, if_false]
        rw [if_neg c1, if_pos c2]
      · have c3 : ¬ (n < 0 ∨ n > mn (w * h) 65536) := fun hh => hh.elim c1 c2
        rw [if_neg c3, if_pos rfl]
        have hm : n ≤ w * h := by
          unfold mn at c2
          split at c2 <;> omega
        refine Ev.step (f := fun k => (printing_places.f k (w * h) n a).bind fun t => some (t, 0)) (fun k => ?_) (Ev.bind (places_ok (by omega) h5 (by omega) hm) (Ev.now _))
        simp only [printing_Places.j0, F.w64, Bool.false_eq_true, if_false]
        rw [if_neg c1, if_neg c2]
    · have hb' : b = true := hb.2 F
      subst hb'
      unfold placesErr
      rw [if_pos F, if_neg (by decide)]
      exact ev_end (fun k => by simp [printing_Places.j0])
  unfold printing_Places.f
  by_cases c1 : w < 1
  · simp only [if_pos c1]
    exact flag true (by simp; intro F; have := F.1; omega)
  by_cases c2 : w > 4096
  · simp only [if_neg c1, if_pos c2]
    exact flag true (by simp; intro F; have := F.2.1; omega)
  by_cases c3 : h < 1
  · simp only [if_neg c1, if_neg c2, if_pos c3]
    exact flag true (by simp; intro F; have := F.2.2.1; omega)
  by_cases c4 : h > 4096
  · simp only [if_neg c1, if_neg c2, if_neg c3, if_pos c4]
    exact flag true (by simp; intro F; have := F.2.2.2.1; omega)
  simp only [if_neg c1, if_neg c2, if_neg c3, if_neg c4]
  rw [w64_mul (by omega) (by omega) (by omega) (by omega)]
  refine flag _ ?_
  rw [decide_eq_true_eq]
  constructor
  · intro hh F
    have := F.2.2.2.2
    omega
  · intro hh
    by_cases hle : w * h > 4194304
    · exact hle
    · exact absurd ⟨by omega, by omega, by omega, by omega, by omega⟩ hh
end Go.Proofs.Ytbipbbckfmilfaa.Pure
