/-
Words for walks; what this claim does not need is left out. Conditions: as each theorem says.
-/
import Derived.Test.YtbipbbckfmilfaaWWords
import Derived.Lib.SmallJoins
import Derived.Deep.Grids
import Derived.ChangeSlices
import Derived.OpenShut
import Derived.ChangeOld
namespace Go.Proofs.Ytbipbbckfmilfaa.XRow
set_option linter.unusedVariables false
open Go.ChangeShapes Go.WideShapes Go.Deep Go.RowKit Go.Proofs.YtbipbbckfmilfaaW.PrintWords
section
variable {H : Type} {enc : TypeId × Value → H} {P : Program} {w : World} {base : Nat}
theorem trod_bools {t e : TypeId} {fuel : Nat} {v : Value} {x : DataW H × List MemPlace} (ht : P.underlying t = some (.slice e)) (he : P.underlying e = some .bool) (hc : P.cellsOf e = 1)
    (h : DataW.trod enc P w base (fun _ => true) true fuel t [v] = some x) :
    ∃ (A : Option Addr) (c : Nat) (l : List Bool), v = .slice A l.length c ∧ l.length ≤ c ∧ l.length ≤ maxLen ∧ Kd.C Kd.bool w A l.length l := by
  rcases open_bools ht he hc h with ⟨hv, _⟩ | ⟨a, len, cap, B, hv, _, hl, hm, _, hcell⟩
  · obtain rfl : v = .slice none 0 0 := by simpa using hv
    exact ⟨none, 0, [], rfl, Nat.le_refl _, Nat.zero_le _, Kd.C_nil _ _⟩
  · obtain rfl : v = .slice (some a) len cap := by simpa using hv
    refine ⟨some a, cap, (List.range len).map B, by simp, by simpa using hl, by simp only [List.length_map, List.length_range]; omega, ?_⟩
    refine Kd.C_of_reads (d := false) (h1 := fun _ => rfl) ⟨rfl, by simp only [List.length_map, List.length_range]; unfold maxLen at hm; omega, fun hp => ⟨a, rfl, fun j hj => ?_⟩⟩
    have hj' : j < len := by simpa using hj
    rw [hcell j (by omega)]
    simp [List.getD_eq_getElem?_getD, List.getElem?_map, List.getElem?_range hj']
end
end Go.Proofs.Ytbipbbckfmilfaa.XRow
