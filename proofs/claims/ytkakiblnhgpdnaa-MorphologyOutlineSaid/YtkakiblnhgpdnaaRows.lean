/-
  No cell of these rows narrows 'for every input' (looked for: loops, veiled, ifaces, maps, wideKeys, modest, calm, conditions, laid).
  DERIVED. THE GIVEN ROWS OF THIS SEAT. 8 by the template 'for every input the law returns true; each argument reads behind the call as it read before'; 0 by the template 'total and deterministic' (their statements: YtkakiblnhgpdnaaTotals.lean).
  GIVEN WITH THE SEED: the statements are not yours to turn. If you find one false, say at which input.
  Laid BY PROGRAM, IN A SANDBOX (cutbox-rows.mjs): the forced cells as the released guide's own fill.sh prints them over the translation ddd40553cd6960bd… (all of the seat's roots in one cut). By AI agents, Wed Nov 11 2026. No macro, syntax, notation, axiom, sorry.
-/
import Derived.Test.YtkakiblnhgpdnaaChecked
import GoSem.Claim
import GoSem.ClaimJoined
import GoSem.ClaimMapViews
import Derived.JoinedTies
import Derived.KernelRfl
namespace Go.Proofs.Ytkakiblnhgpdnaa
/- THE CELL 'sum', in the pinned program and in every row, IS THE sha256 OF THE DUMP (.gsa) THAT YtkakiblnhgpdnaaProg.lean LOADS. Nothing in Lean hashes anything: it is a label: what it is worth is what the hold of that sum in a sandbox is worth. -/
noncomputable def Try.pinned : Pinned := { name := "ytkakiblnhgpdnaa", sum := "ddd40553cd6960bd2c324494fcbd07579a75002f0d0288c86910f7d503f5d39a", checked := Try.checked }
namespace Rows
def none {H : Type} : Left H := { results := [], args := [] }

/-- 'barscanlaw37.MorphologyOpens': WHATEVER THE INPUT: true; the input reads as it did. -/
def morphologyOpensSpec : ChangeSpec := { name := "morphologyOpens", fn := fun _ => fun
  | [d1, d2, d3] => { results := [.lit (.bool true)], args := [d1, d2, d3] }
  | _ => none }
def morphologyOpensRow : OpenClaim := { program := "ytkakiblnhgpdnaa", sum := "ddd40553cd6960bd2c324494fcbd07579a75002f0d0288c86910f7d503f5d39a", func := "barscan/barscanlaw37.MorphologyOpens", spec := "morphologyOpens", unfollowed := true, recurses := true, apart := false }
def MorphologyOpensSaid : Prop := morphologyOpensRow.holds Try.pinned (OpenSpec.ofChange morphologyOpensSpec)

/-- ITS FALSE NEIGHBOUR: 'it returns false'. Refute it at one input. -/
def morphologyOpensWrong : ChangeSpec := { name := "morphologyOpens", fn := fun _ => fun
  | [d1, d2, d3] => { results := [.lit (.bool false)], args := [d1, d2, d3] }
  | _ => none }
def MorphologyOpensWrongFalsely : Prop := morphologyOpensRow.holds Try.pinned (OpenSpec.ofChange morphologyOpensWrong)

/-- 'barscanlaw37.MorphologyMajority': WHATEVER THE INPUT: true; the input reads as it did. -/
def morphologyMajoritySpec : ChangeSpec := { name := "morphologyMajority", fn := fun _ => fun
  | [d1, d2] => { results := [.lit (.bool true)], args := [d1, d2] }
  | _ => none }
def morphologyMajorityRow : OpenClaim := { program := "ytkakiblnhgpdnaa", sum := "ddd40553cd6960bd2c324494fcbd07579a75002f0d0288c86910f7d503f5d39a", func := "barscan/barscanlaw37.MorphologyMajority", spec := "morphologyMajority", unfollowed := true, recurses := true, apart := false }
def MorphologyMajoritySaid : Prop := morphologyMajorityRow.holds Try.pinned (OpenSpec.ofChange morphologyMajoritySpec)

/-- ITS FALSE NEIGHBOUR: 'it returns false'. Refute it at one input. -/
def morphologyMajorityWrong : ChangeSpec := { name := "morphologyMajority", fn := fun _ => fun
  | [d1, d2] => { results := [.lit (.bool false)], args := [d1, d2] }
  | _ => none }
def MorphologyMajorityWrongFalsely : Prop := morphologyMajorityRow.holds Try.pinned (OpenSpec.ofChange morphologyMajorityWrong)

/-- 'barscanlaw37.MorphologyIdempotence': WHATEVER THE INPUT: true; the input reads as it did. -/
def morphologyIdempotenceSpec : ChangeSpec := { name := "morphologyIdempotence", fn := fun _ => fun
  | [d1, d2, d3] => { results := [.lit (.bool true)], args := [d1, d2, d3] }
  | _ => none }
def morphologyIdempotenceRow : OpenClaim := { program := "ytkakiblnhgpdnaa", sum := "ddd40553cd6960bd2c324494fcbd07579a75002f0d0288c86910f7d503f5d39a", func := "barscan/barscanlaw37.MorphologyIdempotence", spec := "morphologyIdempotence", unfollowed := true, recurses := true, apart := false }
def MorphologyIdempotenceSaid : Prop := morphologyIdempotenceRow.holds Try.pinned (OpenSpec.ofChange morphologyIdempotenceSpec)

/-- ITS FALSE NEIGHBOUR: 'it returns false'. Refute it at one input. -/
def morphologyIdempotenceWrong : ChangeSpec := { name := "morphologyIdempotence", fn := fun _ => fun
  | [d1, d2, d3] => { results := [.lit (.bool false)], args := [d1, d2, d3] }
  | _ => none }
def MorphologyIdempotenceWrongFalsely : Prop := morphologyIdempotenceRow.holds Try.pinned (OpenSpec.ofChange morphologyIdempotenceWrong)

/-- 'barscanlaw37.MorphologyOutline': WHATEVER THE INPUT: true; the input reads as it did. -/
def morphologyOutlineSpec : ChangeSpec := { name := "morphologyOutline", fn := fun _ => fun
  | [d] => { results := [.lit (.bool true)], args := [d] }
  | _ => none }
def morphologyOutlineRow : OpenClaim := { program := "ytkakiblnhgpdnaa", sum := "ddd40553cd6960bd2c324494fcbd07579a75002f0d0288c86910f7d503f5d39a", func := "barscan/barscanlaw37.MorphologyOutline", spec := "morphologyOutline", unfollowed := true, recurses := true, apart := false }
def MorphologyOutlineSaid : Prop := morphologyOutlineRow.holds Try.pinned (OpenSpec.ofChange morphologyOutlineSpec)

/-- ITS FALSE NEIGHBOUR: 'it returns false'. Refute it at one input. -/
def morphologyOutlineWrong : ChangeSpec := { name := "morphologyOutline", fn := fun _ => fun
  | [d] => { results := [.lit (.bool false)], args := [d] }
  | _ => none }
def MorphologyOutlineWrongFalsely : Prop := morphologyOutlineRow.holds Try.pinned (OpenSpec.ofChange morphologyOutlineWrong)

/-- 'barscanlaw37.MorphologyErodes': WHATEVER THE INPUT: true; the input reads as it did. -/
def morphologyErodesSpec : ChangeSpec := { name := "morphologyErodes", fn := fun _ => fun
  | [d1, d2, d3] => { results := [.lit (.bool true)], args := [d1, d2, d3] }
  | _ => none }
def morphologyErodesRow : OpenClaim := { program := "ytkakiblnhgpdnaa", sum := "ddd40553cd6960bd2c324494fcbd07579a75002f0d0288c86910f7d503f5d39a", func := "barscan/barscanlaw37.MorphologyErodes", spec := "morphologyErodes", unfollowed := true, recurses := true, apart := false }
def MorphologyErodesSaid : Prop := morphologyErodesRow.holds Try.pinned (OpenSpec.ofChange morphologyErodesSpec)

/-- ITS FALSE NEIGHBOUR: 'it returns false'. Refute it at one input. -/
def morphologyErodesWrong : ChangeSpec := { name := "morphologyErodes", fn := fun _ => fun
  | [d1, d2, d3] => { results := [.lit (.bool false)], args := [d1, d2, d3] }
  | _ => none }
def MorphologyErodesWrongFalsely : Prop := morphologyErodesRow.holds Try.pinned (OpenSpec.ofChange morphologyErodesWrong)

/-- 'barscanlaw37.MorphologyDuality': WHATEVER THE INPUT: true; the input reads as it did. -/
def morphologyDualitySpec : ChangeSpec := { name := "morphologyDuality", fn := fun _ => fun
  | [d1, d2, d3] => { results := [.lit (.bool true)], args := [d1, d2, d3] }
  | _ => none }
def morphologyDualityRow : OpenClaim := { program := "ytkakiblnhgpdnaa", sum := "ddd40553cd6960bd2c324494fcbd07579a75002f0d0288c86910f7d503f5d39a", func := "barscan/barscanlaw37.MorphologyDuality", spec := "morphologyDuality", unfollowed := true, recurses := true, apart := false }
def MorphologyDualitySaid : Prop := morphologyDualityRow.holds Try.pinned (OpenSpec.ofChange morphologyDualitySpec)

/-- ITS FALSE NEIGHBOUR: 'it returns false'. Refute it at one input. -/
def morphologyDualityWrong : ChangeSpec := { name := "morphologyDuality", fn := fun _ => fun
  | [d1, d2, d3] => { results := [.lit (.bool false)], args := [d1, d2, d3] }
  | _ => none }
def MorphologyDualityWrongFalsely : Prop := morphologyDualityRow.holds Try.pinned (OpenSpec.ofChange morphologyDualityWrong)

/-- 'barscanlaw37.MorphologyMonotony': WHATEVER THE INPUT: true; the input reads as it did. -/
def morphologyMonotonySpec : ChangeSpec := { name := "morphologyMonotony", fn := fun _ => fun
  | [d1, d2, d3, d4] => { results := [.lit (.bool true)], args := [d1, d2, d3, d4] }
  | _ => none }
def morphologyMonotonyRow : OpenClaim := { program := "ytkakiblnhgpdnaa", sum := "ddd40553cd6960bd2c324494fcbd07579a75002f0d0288c86910f7d503f5d39a", func := "barscan/barscanlaw37.MorphologyMonotony", spec := "morphologyMonotony", unfollowed := true, recurses := true, apart := false }
def MorphologyMonotonySaid : Prop := morphologyMonotonyRow.holds Try.pinned (OpenSpec.ofChange morphologyMonotonySpec)

/-- ITS FALSE NEIGHBOUR: 'it returns false'. Refute it at one input. -/
def morphologyMonotonyWrong : ChangeSpec := { name := "morphologyMonotony", fn := fun _ => fun
  | [d1, d2, d3, d4] => { results := [.lit (.bool false)], args := [d1, d2, d3, d4] }
  | _ => none }
def MorphologyMonotonyWrongFalsely : Prop := morphologyMonotonyRow.holds Try.pinned (OpenSpec.ofChange morphologyMonotonyWrong)

/-- 'barscanlaw37.MorphologyRadii': WHATEVER THE INPUT: true; the input reads as it did. -/
def morphologyRadiiSpec : ChangeSpec := { name := "morphologyRadii", fn := fun _ => fun
  | [d1, d2, d3, d4, d5] => { results := [.lit (.bool true)], args := [d1, d2, d3, d4, d5] }
  | _ => none }
def morphologyRadiiRow : OpenClaim := { program := "ytkakiblnhgpdnaa", sum := "ddd40553cd6960bd2c324494fcbd07579a75002f0d0288c86910f7d503f5d39a", func := "barscan/barscanlaw37.MorphologyRadii", spec := "morphologyRadii", unfollowed := true, recurses := true, apart := false }
def MorphologyRadiiSaid : Prop := morphologyRadiiRow.holds Try.pinned (OpenSpec.ofChange morphologyRadiiSpec)

/-- ITS FALSE NEIGHBOUR: 'it returns false'. Refute it at one input. -/
def morphologyRadiiWrong : ChangeSpec := { name := "morphologyRadii", fn := fun _ => fun
  | [d1, d2, d3, d4, d5] => { results := [.lit (.bool false)], args := [d1, d2, d3, d4, d5] }
  | _ => none }
def MorphologyRadiiWrongFalsely : Prop := morphologyRadiiRow.holds Try.pinned (OpenSpec.ofChange morphologyRadiiWrong)

/- THE SECOND FORM. 'bulk': how many values and letters a reading holds, each counted each time it is reached (what is shared counts as often as it is met; a slice's spare places count too). A statement '..UptoSaid' is the law's where the arguments, and the package variables that the reading takes, are together of bulk at most 1048576: NARROWER than '..Said'. Prove '..Said' where nothing that the law and all that it calls make is longer than what came in: it says more and counts as full. Else prove '..UptoSaid'. A law counts once. -/
mutual
def uptoBulk {H : Type} : DataW H → Nat
  | .lit (.string bytes) => bytes.length + 1
  | .lit _ => 1
  | .nil => 1
  | .ptr d => uptoBulk d + 1
  | .slice elems spare => uptoBulkAll elems + uptoBulkAll spare + 1
  | .agg parts => uptoBulkAll parts + 1
  | .iface _ d => uptoBulk d + 1
  | .map entries => uptoBulkEntries entries + 1
  | .held _ => 1
def uptoBulkAll {H : Type} : List (DataW H) → Nat
  | [] => 0
  | d :: r => uptoBulk d + uptoBulkAll r
def uptoBulkEntries {H : Type} : List (Lit × DataW H) → Nat
  | [] => 0
  | x :: r => uptoBulkEntry x + uptoBulkEntries r
def uptoBulkEntry {H : Type} : Lit × DataW H → Nat
  | (.string bytes, d) => bytes.length + uptoBulk d + 1
  | (_, d) => uptoBulk d + 1
 end
def uptoSmall : (H : Type) → List (DataW H) → Bool := fun _ ds => decide (uptoBulkAll ds ≤ 1048576)
def OpenSpec.upto (s : _root_.Go.ChangeSpec) : _root_.Go.OpenSpec := { _root_.Go.OpenSpec.ofChange s with cond := some uptoSmall }

/-- 'barscanlaw37.MorphologyOpens', WHERE WHAT IT READS IS OF BULK AT MOST 1048576: true; the input reads as it did. -/
def morphologyOpensUptoRow : OpenClaim := { program := "ytkakiblnhgpdnaa", sum := "ddd40553cd6960bd2c324494fcbd07579a75002f0d0288c86910f7d503f5d39a", func := "barscan/barscanlaw37.MorphologyOpens", spec := "morphologyOpens", unfollowed := true, recurses := true, apart := false, narrowed := true }
def MorphologyOpensUptoSaid : Prop := morphologyOpensUptoRow.holds Try.pinned (OpenSpec.upto morphologyOpensSpec)

/-- 'barscanlaw37.MorphologyMajority', WHERE WHAT IT READS IS OF BULK AT MOST 1048576: true; the input reads as it did. -/
def morphologyMajorityUptoRow : OpenClaim := { program := "ytkakiblnhgpdnaa", sum := "ddd40553cd6960bd2c324494fcbd07579a75002f0d0288c86910f7d503f5d39a", func := "barscan/barscanlaw37.MorphologyMajority", spec := "morphologyMajority", unfollowed := true, recurses := true, apart := false, narrowed := true }
def MorphologyMajorityUptoSaid : Prop := morphologyMajorityUptoRow.holds Try.pinned (OpenSpec.upto morphologyMajoritySpec)

/-- 'barscanlaw37.MorphologyIdempotence', WHERE WHAT IT READS IS OF BULK AT MOST 1048576: true; the input reads as it did. -/
def morphologyIdempotenceUptoRow : OpenClaim := { program := "ytkakiblnhgpdnaa", sum := "ddd40553cd6960bd2c324494fcbd07579a75002f0d0288c86910f7d503f5d39a", func := "barscan/barscanlaw37.MorphologyIdempotence", spec := "morphologyIdempotence", unfollowed := true, recurses := true, apart := false, narrowed := true }
def MorphologyIdempotenceUptoSaid : Prop := morphologyIdempotenceUptoRow.holds Try.pinned (OpenSpec.upto morphologyIdempotenceSpec)

/-- 'barscanlaw37.MorphologyOutline', WHERE WHAT IT READS IS OF BULK AT MOST 1048576: true; the input reads as it did. -/
def morphologyOutlineUptoRow : OpenClaim := { program := "ytkakiblnhgpdnaa", sum := "ddd40553cd6960bd2c324494fcbd07579a75002f0d0288c86910f7d503f5d39a", func := "barscan/barscanlaw37.MorphologyOutline", spec := "morphologyOutline", unfollowed := true, recurses := true, apart := false, narrowed := true }
def MorphologyOutlineUptoSaid : Prop := morphologyOutlineUptoRow.holds Try.pinned (OpenSpec.upto morphologyOutlineSpec)

/-- 'barscanlaw37.MorphologyErodes', WHERE WHAT IT READS IS OF BULK AT MOST 1048576: true; the input reads as it did. -/
def morphologyErodesUptoRow : OpenClaim := { program := "ytkakiblnhgpdnaa", sum := "ddd40553cd6960bd2c324494fcbd07579a75002f0d0288c86910f7d503f5d39a", func := "barscan/barscanlaw37.MorphologyErodes", spec := "morphologyErodes", unfollowed := true, recurses := true, apart := false, narrowed := true }
def MorphologyErodesUptoSaid : Prop := morphologyErodesUptoRow.holds Try.pinned (OpenSpec.upto morphologyErodesSpec)

/-- 'barscanlaw37.MorphologyDuality', WHERE WHAT IT READS IS OF BULK AT MOST 1048576: true; the input reads as it did. -/
def morphologyDualityUptoRow : OpenClaim := { program := "ytkakiblnhgpdnaa", sum := "ddd40553cd6960bd2c324494fcbd07579a75002f0d0288c86910f7d503f5d39a", func := "barscan/barscanlaw37.MorphologyDuality", spec := "morphologyDuality", unfollowed := true, recurses := true, apart := false, narrowed := true }
def MorphologyDualityUptoSaid : Prop := morphologyDualityUptoRow.holds Try.pinned (OpenSpec.upto morphologyDualitySpec)

/-- 'barscanlaw37.MorphologyMonotony', WHERE WHAT IT READS IS OF BULK AT MOST 1048576: true; the input reads as it did. -/
def morphologyMonotonyUptoRow : OpenClaim := { program := "ytkakiblnhgpdnaa", sum := "ddd40553cd6960bd2c324494fcbd07579a75002f0d0288c86910f7d503f5d39a", func := "barscan/barscanlaw37.MorphologyMonotony", spec := "morphologyMonotony", unfollowed := true, recurses := true, apart := false, narrowed := true }
def MorphologyMonotonyUptoSaid : Prop := morphologyMonotonyUptoRow.holds Try.pinned (OpenSpec.upto morphologyMonotonySpec)

/-- 'barscanlaw37.MorphologyRadii', WHERE WHAT IT READS IS OF BULK AT MOST 1048576: true; the input reads as it did. -/
def morphologyRadiiUptoRow : OpenClaim := { program := "ytkakiblnhgpdnaa", sum := "ddd40553cd6960bd2c324494fcbd07579a75002f0d0288c86910f7d503f5d39a", func := "barscan/barscanlaw37.MorphologyRadii", spec := "morphologyRadii", unfollowed := true, recurses := true, apart := false, narrowed := true }
def MorphologyRadiiUptoSaid : Prop := morphologyRadiiUptoRow.holds Try.pinned (OpenSpec.upto morphologyRadiiSpec)

end Rows
end Go.Proofs.Ytkakiblnhgpdnaa
