/-
Three loops that lay blocks into a table of light pixels. Conditions: as each theorem says.
-/
import Derived.Test.YtghfcdgdbdeomaaXPure
namespace Go.Proofs.Ytghfcdgdbdeomaa.Pure
set_option linter.unusedVariables false
set_option linter.unusedSimpArgs false
open Go.RowKit Go.Proofs.YtghfcdgdbdeomaaW.PrintWords Go.Proofs.YtghfcdgdbdeomaaW.PrintMore Go.Proofs.Ytghfcdgdbdeomaa.XWords Go.Proofs.Ytghfcdgdbdeomaa.XPure

theorem upto_set {α : Type} {W : Int} {f : Int → Int → α} {N : Nat} {u v : Int} {x : α} (h0 : 0 ≤ u) (h1 : u < W) (hv : 0 ≤ v) :
    (upto W f N).set (v * W + u).toNat x = upto W (fun U V => if U = u ∧ V = v then x else f U V) N := by
  have hp : 0 ≤ v * W + u := row_nonneg (by omega) h0 hv
  apply List.ext_getElem?
  intro j
  unfold upto
  rw [List.getElem?_set, List.length_map, List.length_range, List.getElem?_map, List.getElem?_map]
  by_cases hj : j < N
  · rw [List.getElem?_range hj, Option.map_some, Option.map_some]
    by_cases he : (v * W + u).toNat = j
    · have e : (j : Int) = v * W + u := by omega
      rw [if_pos he, if_pos (by omega), e, row_mod h0 h1, row_div h0 h1]
      exact congrArg some (if_pos ⟨rfl, rfl⟩).symm
    · rw [if_neg he]
      refine congrArg some (if_neg ?_).symm
      rintro ⟨e1, e2⟩
      have := mod_div (w := W) (by omega) (j : Int)
      rw [e1, e2] at this
      omega
  · rw [List.getElem?_eq_none (by rw [List.length_range]; omega)]
    by_cases he : (v * W + u).toNat = j
    · rw [if_pos he, if_neg (by omega)]
      rfl
    · rw [if_neg he]
      rfl
theorem upto_in {α : Type} {W H : Int} {f g : Int → Int → α} (hW : 0 < W) (h : ∀ U V, 0 ≤ U → U < W → 0 ≤ V → V < H → f U V = g U V) : upto W f (W * H).toNat = upto W g (W * H).toNat := by
  refine upto_congr (fun i hi => ?_)
  exact h _ _ (Int.emod_nonneg _ (by omega)) (Int.emod_lt_of_pos _ hW) (Int.ediv_nonneg (by omega) (by omega)) (div_lt hW (by omega))

/-- What has been laid when block i, row v, column u is next. -/
def laid (B q n : Int) (val : Int → Int → Int → Bool) (i v u U V : Int) : Bool :=
  if (U % B < q ∧ U / B < n) ∧ (U / B < i ∨ (U / B = i ∧ (V < v ∨ (V = v ∧ U % B < u)))) then val (U / B) V (U % B) else false

theorem ev_blocks {β : Type} {W H B q n : Int} (hW : 0 < W) (hH : 0 ≤ H) (hB : 0 < B) (hq : 0 ≤ q) (hqB : q ≤ B) (hn : 0 ≤ n) (hfit : ∀ i u, 0 ≤ i → i < n → 0 ≤ u → u < q → B * i + u < W) (val : Int → Int → Int → Bool)
    (L0 : Nat → Int → List Bool → Option β) (L1 : Nat → Int → Int → List Bool → Option β) (L2 : Nat → Int → Int → Int → List Bool → Option β) (r : β)
    (e0 : ∀ i acc, 0 ≤ i → i < n → Ev (fun k => L1 k i 0 acc) r → Ev (fun k => L0 k i acc) r)
    (e1 : ∀ k i v acc, 0 ≤ i → i < n → 0 ≤ v → v < H → L1 (k + 1) i v acc = L2 k i v 0 acc)
    (e2 : ∀ k i v u acc, 0 ≤ i → i < n → 0 ≤ v → v < H → 0 ≤ u → u < q → acc.length = (W * H).toNat → L2 (k + 1) i v u acc = L2 k i v (u + 1) (acc.set (v * W + (B * i + u)).toNat (val i v u)))
    (e3 : ∀ k i v acc, 0 ≤ i → i < n → 0 ≤ v → v < H → L2 (k + 1) i v q acc = L1 k i (v + 1) acc)
    (e4 : ∀ k i acc, 0 ≤ i → i < n → L1 (k + 1) i H acc = L0 k (i + 1) acc)
    (e5 : Ev (fun k => L0 k n (upto W (fun U V => if U % B < q ∧ U / B < n then val (U / B) V (U % B) else false) (W * H).toNat)) r) :
    Ev (fun k => L0 k 0 (List.replicate (W * H).toNat false)) r := by
  have hrep : List.replicate (W * H).toNat false = upto W (laid B q n val 0 0 0) (W * H).toNat := by
    refine (List.eq_replicate_iff.2 ⟨upto_length _ _ _, ?_⟩).symm
    intro b hb
    unfold upto at hb
    obtain ⟨i, hi, rfl⟩ := List.mem_map.1 hb
    have h1 := Int.ediv_nonneg (show 0 ≤ (i : Int) % W from Int.emod_nonneg _ (by omega)) (show 0 ≤ B by omega)
    have h2 := Int.emod_nonneg ((i : Int) % W) (show B ≠ 0 by omega)
    have h3 := Int.ediv_nonneg (show 0 ≤ (i : Int) by omega) (show 0 ≤ W by omega)
    unfold laid
    rw [if_neg]
    rintro ⟨_, h | ⟨_, h | ⟨_, h⟩⟩⟩ <;> omega
  rw [hrep]
  refine ev_loop (fun k i acc => L0 k i acc) 0 n hn (fun i acc => acc = upto W (laid B q n val i 0 0) (W * H).toNat) r ?_ ?_ _ rfl
  · intro i acc hi hin hI K
    refine e0 i acc hi hin ?_
    refine ev_loop (fun k v acc => L1 k i v acc) 0 H hH (fun v acc => acc = upto W (laid B q n val i v 0) (W * H).toNat) r ?_ ?_ _ hI
    · intro v acc hv hvH hJ K1
      refine Ev.step (f := fun k => L2 k i v 0 acc) (fun k => e1 k i v acc hi hin hv hvH) ?_
      refine ev_loop (fun k u acc => L2 k i v u acc) 0 q hq (fun u acc => acc = upto W (laid B q n val i v u) (W * H).toNat) r ?_ ?_ _ hJ
      · intro u acc hu huq hL K2
        refine Ev.step (f := fun k => L2 k i v (u + 1) (acc.set (v * W + (B * i + u)).toNat (val i v u))) (fun k => e2 k i v u acc hi hin hv hvH hu huq (by rw [hL, upto_length])) (K2 _ ?_)
        have hBi : 0 ≤ B * i := Int.mul_nonneg (by omega) hi
        rw [hL, upto_set (by omega) (hfit i u hi hin hu huq) hv]
        refine upto_in hW (fun U V hU hUW hV hVH => ?_)
        have hm0 := Int.emod_nonneg U (show B ≠ 0 by omega)
        have hmd := Int.mul_ediv_add_emod U B
        by_cases hc : U = B * i + u ∧ V = v
        · rw [if_pos hc]
          have ed : U / B = i := by rw [hc.1, Int.mul_comm B i]; exact row_div hu (by omega)
          have em : U % B = u := by rw [hc.1, Int.mul_comm B i]; exact row_mod hu (by omega)
          unfold laid
          rw [if_pos ⟨⟨by omega, by omega⟩, .inr ⟨ed, .inr ⟨hc.2, by omega⟩⟩⟩, ed, em, hc.2]
        · rw [if_neg hc]
          have hne : ¬ (U / B = i ∧ V = v ∧ U % B = u) := by
            rintro ⟨a1, a2, a3⟩
            rw [a1, a3] at hmd
            exact hc ⟨hmd.symm, a2⟩
          unfold laid
          by_cases hd : (U % B < q ∧ U / B < n) ∧ (U / B < i ∨ (U / B = i ∧ (V < v ∨ (V = v ∧ U % B < u))))
          · rw [if_pos hd, if_pos]
            refine ⟨hd.1, ?_⟩
            rcases hd.2 with h | ⟨h, h' | ⟨h', h''⟩⟩
            · exact .inl h
            · exact .inr ⟨h, .inl h'⟩
            · exact .inr ⟨h, .inr ⟨h', by omega⟩⟩
          · rw [if_neg hd, if_neg]
            rintro ⟨h1, h2⟩
            refine hd ⟨h1, ?_⟩
            rcases h2 with h | ⟨h, h' | ⟨h', h''⟩⟩
            · exact .inl h
            · exact .inr ⟨h, .inl h'⟩
            · refine .inr ⟨h, .inr ⟨h', ?_⟩⟩
              by_cases he : U % B = u
              · exact absurd ⟨h, h', he⟩ hne
              · omega
      · intro acc hL
        refine Ev.step (f := fun k => L1 k i (v + 1) acc) (fun k => e3 k i v acc hi hin hv hvH) (K1 _ ?_)
        rw [hL]
        refine upto_in hW (fun U V hU hUW hV hVH => ?_)
        have hm0 := Int.emod_nonneg U (show B ≠ 0 by omega)
        unfold laid
        by_cases hd : (U % B < q ∧ U / B < n) ∧ (U / B < i ∨ (U / B = i ∧ (V < v ∨ (V = v ∧ U % B < q))))
        · rw [if_pos hd, if_pos]
          refine ⟨hd.1, ?_⟩
          rcases hd.2 with h | ⟨h, h'⟩
          · exact .inl h
          · exact .inr ⟨h, .inl (by omega)⟩
        · rw [if_neg hd, if_neg]
          rintro ⟨h1, h2⟩
          refine hd ⟨h1, ?_⟩
          rcases h2 with h | ⟨h, h'⟩
          · exact .inl h
          · exact .inr ⟨h, by omega⟩
    · intro acc hJ
      refine Ev.step (f := fun k => L0 k (i + 1) acc) (fun k => e4 k i acc hi hin) (K _ ?_)
      rw [hJ]
      refine upto_in hW (fun U V hU hUW hV hVH => ?_)
      have hm0 := Int.emod_nonneg U (show B ≠ 0 by omega)
      unfold laid
      by_cases hd : (U % B < q ∧ U / B < n) ∧ (U / B < i ∨ (U / B = i ∧ (V < H ∨ (V = H ∧ U % B < 0))))
      · rw [if_pos hd, if_pos]
        exact ⟨hd.1, .inl (by rcases hd.2 with h | ⟨h, h'⟩ <;> omega)⟩
      · rw [if_neg hd, if_neg]
        rintro ⟨h1, h2⟩
        refine hd ⟨h1, ?_⟩
        by_cases h : U / B = i
        · exact .inr ⟨h, .inl hVH⟩
        · exact .inl (by rcases h2 with h2 | ⟨h2, h3 | ⟨h3, h4⟩⟩ <;> omega)
  · intro acc hI
    have : acc = upto W (fun U V => if U % B < q ∧ U / B < n then val (U / B) V (U % B) else false) (W * H).toNat := by
      rw [hI]
      refine upto_in hW (fun U V hU hUW hV hVH => ?_)
      unfold laid
      by_cases hd : U % B < q ∧ U / B < n
      · rw [if_pos hd, if_pos ⟨hd, .inl hd.2⟩]
      · rw [if_neg hd, if_neg (fun h => hd h.1)]
    rw [this]
    exact e5
end Go.Proofs.Ytghfcdgdbdeomaa.Pure
