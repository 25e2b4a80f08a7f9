/-
  No cell of these rows narrows 'for every input' (looked for: loops, veiled, ifaces, maps, wideKeys, modest, calm, conditions, laid).
  DERIVED. THE GIVEN ROWS OF THIS SEAT. 7 by the template 'for every input the law returns true; each argument reads behind the call as it read before'; 0 by the template 'total and deterministic' (their statements: YtbipbbckfmilfaaTotals.lean).
  GIVEN WITH THE SEED: the statements are not yours to turn. If you find one false, say at which input.
  Laid BY PROGRAM, IN A SANDBOX (cutbox-rows.mjs): the forced cells as the released guide's own fill.sh prints them over the translation b009df7b08946574… (all of the seat's roots in one cut). By AI agents, Wed Nov 11 2026. No macro, syntax, notation, axiom, sorry.
-/
import Derived.Test.YtbipbbckfmilfaaChecked
import GoSem.Claim
import GoSem.ClaimJoined
import GoSem.ClaimMapViews
import Derived.JoinedTies
import Derived.KernelRfl
namespace Go.Proofs.Ytbipbbckfmilfaa
/- THE CELL 'sum', in the pinned program and in every row, IS THE sha256 OF THE DUMP (.gsa) THAT YtbipbbckfmilfaaProg.lean LOADS. Nothing in Lean hashes anything: it is a label: what it is worth is what the hold of that sum in a sandbox is worth. -/
noncomputable def Try.pinned : Pinned := { name := "ytbipbbckfmilfaa", sum := "b009df7b089465745a0ca863e07ac32cb7900f489a06f6a4c6503cb9eaf578cf", checked := Try.checked }
namespace Rows
def none {H : Type} : Left H := { results := [], args := [] }

/-- 'barscanlaw43.PrintingBlurs': WHATEVER THE INPUT: true; the input reads as it did. -/
def printingBlursSpec : ChangeSpec := { name := "printingBlurs", fn := fun _ => fun
  | [d1, d2] => { results := [.lit (.bool true)], args := [d1, d2] }
  | _ => none }
def printingBlursRow : OpenClaim := { program := "ytbipbbckfmilfaa", sum := "b009df7b089465745a0ca863e07ac32cb7900f489a06f6a4c6503cb9eaf578cf", func := "barscan/barscanlaw43.PrintingBlurs", spec := "printingBlurs", apart := false }
def PrintingBlursSaid : Prop := printingBlursRow.holds Try.pinned (OpenSpec.ofChange printingBlursSpec)

/-- ITS FALSE NEIGHBOUR: 'it returns false'. Refute it at one input. -/
def printingBlursWrong : ChangeSpec := { name := "printingBlurs", fn := fun _ => fun
  | [d1, d2] => { results := [.lit (.bool false)], args := [d1, d2] }
  | _ => none }
def PrintingBlursWrongFalsely : Prop := printingBlursRow.holds Try.pinned (OpenSpec.ofChange printingBlursWrong)

/-- 'barscanlaw43.PrintingMeans': WHATEVER THE INPUT: true; the input reads as it did. -/
def printingMeansSpec : ChangeSpec := { name := "printingMeans", fn := fun _ => fun
  | [d1, d2, d3, d4] => { results := [.lit (.bool true)], args := [d1, d2, d3, d4] }
  | _ => none }
def printingMeansRow : OpenClaim := { program := "ytbipbbckfmilfaa", sum := "b009df7b089465745a0ca863e07ac32cb7900f489a06f6a4c6503cb9eaf578cf", func := "barscan/barscanlaw43.PrintingMeans", spec := "printingMeans", unfollowed := true, recurses := true, apart := false }
def PrintingMeansSaid : Prop := printingMeansRow.holds Try.pinned (OpenSpec.ofChange printingMeansSpec)

/-- ITS FALSE NEIGHBOUR: 'it returns false'. Refute it at one input. -/
def printingMeansWrong : ChangeSpec := { name := "printingMeans", fn := fun _ => fun
  | [d1, d2, d3, d4] => { results := [.lit (.bool false)], args := [d1, d2, d3, d4] }
  | _ => none }
def PrintingMeansWrongFalsely : Prop := printingMeansRow.holds Try.pinned (OpenSpec.ofChange printingMeansWrong)

/-- 'barscanlaw43.PrintingModules': WHATEVER THE INPUT: true; the input reads as it did. -/
def printingModulesSpec : ChangeSpec := { name := "printingModules", fn := fun _ => fun
  | [d1, d2, d3] => { results := [.lit (.bool true)], args := [d1, d2, d3] }
  | _ => none }
def printingModulesRow : OpenClaim := { program := "ytbipbbckfmilfaa", sum := "b009df7b089465745a0ca863e07ac32cb7900f489a06f6a4c6503cb9eaf578cf", func := "barscan/barscanlaw43.PrintingModules", spec := "printingModules", apart := false }
def PrintingModulesSaid : Prop := printingModulesRow.holds Try.pinned (OpenSpec.ofChange printingModulesSpec)

/-- ITS FALSE NEIGHBOUR: 'it returns false'. Refute it at one input. -/
def printingModulesWrong : ChangeSpec := { name := "printingModules", fn := fun _ => fun
  | [d1, d2, d3] => { results := [.lit (.bool false)], args := [d1, d2, d3] }
  | _ => none }
def PrintingModulesWrongFalsely : Prop := printingModulesRow.holds Try.pinned (OpenSpec.ofChange printingModulesWrong)

/-- 'barscanlaw43.PrintingRenders': WHATEVER THE INPUT: true; the input reads as it did. -/
def printingRendersSpec : ChangeSpec := { name := "printingRenders", fn := fun _ => fun
  | [d1, d2, d3, d4] => { results := [.lit (.bool true)], args := [d1, d2, d3, d4] }
  | _ => none }
def printingRendersRow : OpenClaim := { program := "ytbipbbckfmilfaa", sum := "b009df7b089465745a0ca863e07ac32cb7900f489a06f6a4c6503cb9eaf578cf", func := "barscan/barscanlaw43.PrintingRenders", spec := "printingRenders", apart := false }
def PrintingRendersSaid : Prop := printingRendersRow.holds Try.pinned (OpenSpec.ofChange printingRendersSpec)

/-- ITS FALSE NEIGHBOUR: 'it returns false'. Refute it at one input. -/
def printingRendersWrong : ChangeSpec := { name := "printingRenders", fn := fun _ => fun
  | [d1, d2, d3, d4] => { results := [.lit (.bool false)], args := [d1, d2, d3, d4] }
  | _ => none }
def PrintingRendersWrongFalsely : Prop := printingRendersRow.holds Try.pinned (OpenSpec.ofChange printingRendersWrong)

/-- 'barscanlaw43.PrintingPlaces': WHATEVER THE INPUT: true; the input reads as it did. -/
def printingPlacesSpec : ChangeSpec := { name := "printingPlaces", fn := fun _ => fun
  | [d1, d2, d3, d4, d5] => { results := [.lit (.bool true)], args := [d1, d2, d3, d4, d5] }
  | _ => none }
def printingPlacesRow : OpenClaim := { program := "ytbipbbckfmilfaa", sum := "b009df7b089465745a0ca863e07ac32cb7900f489a06f6a4c6503cb9eaf578cf", func := "barscan/barscanlaw43.PrintingPlaces", spec := "printingPlaces", apart := false }
def PrintingPlacesSaid : Prop := printingPlacesRow.holds Try.pinned (OpenSpec.ofChange printingPlacesSpec)

/-- ITS FALSE NEIGHBOUR: 'it returns false'. Refute it at one input. -/
def printingPlacesWrong : ChangeSpec := { name := "printingPlaces", fn := fun _ => fun
  | [d1, d2, d3, d4, d5] => { results := [.lit (.bool false)], args := [d1, d2, d3, d4, d5] }
  | _ => none }
def PrintingPlacesWrongFalsely : Prop := printingPlacesRow.holds Try.pinned (OpenSpec.ofChange printingPlacesWrong)

/-- 'barscanlaw43.PrintingDistinct': WHATEVER THE INPUT: true; the input reads as it did. -/
def printingDistinctSpec : ChangeSpec := { name := "printingDistinct", fn := fun _ => fun
  | [d1, d2, d3, d4] => { results := [.lit (.bool true)], args := [d1, d2, d3, d4] }
  | _ => none }
def printingDistinctRow : OpenClaim := { program := "ytbipbbckfmilfaa", sum := "b009df7b089465745a0ca863e07ac32cb7900f489a06f6a4c6503cb9eaf578cf", func := "barscan/barscanlaw43.PrintingDistinct", spec := "printingDistinct", apart := false }
def PrintingDistinctSaid : Prop := printingDistinctRow.holds Try.pinned (OpenSpec.ofChange printingDistinctSpec)

/-- ITS FALSE NEIGHBOUR: 'it returns false'. Refute it at one input. -/
def printingDistinctWrong : ChangeSpec := { name := "printingDistinct", fn := fun _ => fun
  | [d1, d2, d3, d4] => { results := [.lit (.bool false)], args := [d1, d2, d3, d4] }
  | _ => none }
def PrintingDistinctWrongFalsely : Prop := printingDistinctRow.holds Try.pinned (OpenSpec.ofChange printingDistinctWrong)

/-- 'barscanlaw43.PrintingPrints': WHATEVER THE INPUT: true; the input reads as it did. -/
def printingPrintsSpec : ChangeSpec := { name := "printingPrints", fn := fun _ => fun
  | [d1, d2] => { results := [.lit (.bool true)], args := [d1, d2] }
  | _ => none }
def printingPrintsRow : OpenClaim := { program := "ytbipbbckfmilfaa", sum := "b009df7b089465745a0ca863e07ac32cb7900f489a06f6a4c6503cb9eaf578cf", func := "barscan/barscanlaw43.PrintingPrints", spec := "printingPrints", unfollowed := true, recurses := true, apart := false }
def PrintingPrintsSaid : Prop := printingPrintsRow.holds Try.pinned (OpenSpec.ofChange printingPrintsSpec)

/-- ITS FALSE NEIGHBOUR: 'it returns false'. Refute it at one input. -/
def printingPrintsWrong : ChangeSpec := { name := "printingPrints", fn := fun _ => fun
  | [d1, d2] => { results := [.lit (.bool false)], args := [d1, d2] }
  | _ => none }
def PrintingPrintsWrongFalsely : Prop := printingPrintsRow.holds Try.pinned (OpenSpec.ofChange printingPrintsWrong)

/- THE SECOND FORM. 'bulk': how many values and letters a reading holds, each counted each time it is reached (what is shared counts as often as it is met; a slice's spare places count too). A statement '..UptoSaid' is the law's where the arguments, and the package variables that the reading takes, are together of bulk at most 1048576: NARROWER than '..Said'. Prove '..Said' where nothing that the law and all that it calls make is longer than what came in: it says more and counts as full. Else prove '..UptoSaid'. A law counts once. -/
mutual
def uptoBulk {H : Type} : DataW H → Nat
  | .lit (.string bytes) => bytes.length + 1
  | .lit _ => 1
  | .nil => 1
  | .ptr d => uptoBulk d + 1
  | .slice elems spare => uptoBulkAll elems + uptoBulkAll spare + 1
  | .agg parts => uptoBulkAll parts + 1
  | .iface _ d => uptoBulk d + 1
  | .map entries => uptoBulkEntries entries + 1
  | .held _ => 1
def uptoBulkAll {H : Type} : List (DataW H) → Nat
  | [] => 0
  | d :: r => uptoBulk d + uptoBulkAll r
def uptoBulkEntries {H : Type} : List (Lit × DataW H) → Nat
  | [] => 0
  | x :: r => uptoBulkEntry x + uptoBulkEntries r
def uptoBulkEntry {H : Type} : Lit × DataW H → Nat
  | (.string bytes, d) => bytes.length + uptoBulk d + 1
  | (_, d) => uptoBulk d + 1
 end
def uptoSmall : (H : Type) → List (DataW H) → Bool := fun _ ds => decide (uptoBulkAll ds ≤ 1048576)
def OpenSpec.upto (s : _root_.Go.ChangeSpec) : _root_.Go.OpenSpec := { _root_.Go.OpenSpec.ofChange s with cond := some uptoSmall }

/-- 'barscanlaw43.PrintingBlurs', WHERE WHAT IT READS IS OF BULK AT MOST 1048576: true; the input reads as it did. -/
def printingBlursUptoRow : OpenClaim := { program := "ytbipbbckfmilfaa", sum := "b009df7b089465745a0ca863e07ac32cb7900f489a06f6a4c6503cb9eaf578cf", func := "barscan/barscanlaw43.PrintingBlurs", spec := "printingBlurs", apart := false, narrowed := true }
def PrintingBlursUptoSaid : Prop := printingBlursUptoRow.holds Try.pinned (OpenSpec.upto printingBlursSpec)

/-- 'barscanlaw43.PrintingMeans', WHERE WHAT IT READS IS OF BULK AT MOST 1048576: true; the input reads as it did. -/
def printingMeansUptoRow : OpenClaim := { program := "ytbipbbckfmilfaa", sum := "b009df7b089465745a0ca863e07ac32cb7900f489a06f6a4c6503cb9eaf578cf", func := "barscan/barscanlaw43.PrintingMeans", spec := "printingMeans", unfollowed := true, recurses := true, apart := false, narrowed := true }
def PrintingMeansUptoSaid : Prop := printingMeansUptoRow.holds Try.pinned (OpenSpec.upto printingMeansSpec)

/-- 'barscanlaw43.PrintingModules', WHERE WHAT IT READS IS OF BULK AT MOST 1048576: true; the input reads as it did. -/
def printingModulesUptoRow : OpenClaim := { program := "ytbipbbckfmilfaa", sum := "b009df7b089465745a0ca863e07ac32cb7900f489a06f6a4c6503cb9eaf578cf", func := "barscan/barscanlaw43.PrintingModules", spec := "printingModules", apart := false, narrowed := true }
def PrintingModulesUptoSaid : Prop := printingModulesUptoRow.holds Try.pinned (OpenSpec.upto printingModulesSpec)

/-- 'barscanlaw43.PrintingRenders', WHERE WHAT IT READS IS OF BULK AT MOST 1048576: true; the input reads as it did. -/
def printingRendersUptoRow : OpenClaim := { program := "ytbipbbckfmilfaa", sum := "b009df7b089465745a0ca863e07ac32cb7900f489a06f6a4c6503cb9eaf578cf", func := "barscan/barscanlaw43.PrintingRenders", spec := "printingRenders", apart := false, narrowed := true }
def PrintingRendersUptoSaid : Prop := printingRendersUptoRow.holds Try.pinned (OpenSpec.upto printingRendersSpec)

/-- 'barscanlaw43.PrintingPlaces', WHERE WHAT IT READS IS OF BULK AT MOST 1048576: true; the input reads as it did. -/
def printingPlacesUptoRow : OpenClaim := { program := "ytbipbbckfmilfaa", sum := "b009df7b089465745a0ca863e07ac32cb7900f489a06f6a4c6503cb9eaf578cf", func := "barscan/barscanlaw43.PrintingPlaces", spec := "printingPlaces", apart := false, narrowed := true }
def PrintingPlacesUptoSaid : Prop := printingPlacesUptoRow.holds Try.pinned (OpenSpec.upto printingPlacesSpec)

/-- 'barscanlaw43.PrintingDistinct', WHERE WHAT IT READS IS OF BULK AT MOST 1048576: true; the input reads as it did. -/
def printingDistinctUptoRow : OpenClaim := { program := "ytbipbbckfmilfaa", sum := "b009df7b089465745a0ca863e07ac32cb7900f489a06f6a4c6503cb9eaf578cf", func := "barscan/barscanlaw43.PrintingDistinct", spec := "printingDistinct", apart := false, narrowed := true }
def PrintingDistinctUptoSaid : Prop := printingDistinctUptoRow.holds Try.pinned (OpenSpec.upto printingDistinctSpec)

/-- 'barscanlaw43.PrintingPrints', WHERE WHAT IT READS IS OF BULK AT MOST 1048576: true; the input reads as it did. -/
def printingPrintsUptoRow : OpenClaim := { program := "ytbipbbckfmilfaa", sum := "b009df7b089465745a0ca863e07ac32cb7900f489a06f6a4c6503cb9eaf578cf", func := "barscan/barscanlaw43.PrintingPrints", spec := "printingPrints", unfollowed := true, recurses := true, apart := false, narrowed := true }
def PrintingPrintsUptoSaid : Prop := printingPrintsUptoRow.holds Try.pinned (OpenSpec.upto printingPrintsSpec)

end Rows
end Go.Proofs.Ytbipbbckfmilfaa
