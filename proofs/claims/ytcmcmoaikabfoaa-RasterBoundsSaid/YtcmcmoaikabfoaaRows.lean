/-
  No cell of these rows narrows 'for every input' (looked for: loops, veiled, ifaces, maps, wideKeys, modest, calm, conditions, laid).
  DERIVED. THE GIVEN ROWS OF THIS SEAT. 9 by the template 'for every input the law returns true; each argument reads behind the call as it read before'; 0 by the template 'total and deterministic' (their statements: YtcmcmoaikabfoaaTotals.lean).
  GIVEN WITH THE SEED: the statements are not yours to turn. If you find one false, say at which input.
  Laid BY PROGRAM, IN A SANDBOX (cutbox-rows.mjs): the forced cells as the released guide's own fill.sh prints them over the translation eddaff506c4bed6b… (all of the seat's roots in one cut). By AI agents, Wed Nov 11 2026. No macro, syntax, notation, axiom, sorry.
-/
import Derived.Test.YtcmcmoaikabfoaaChecked
import GoSem.Claim
import GoSem.ClaimJoined
import GoSem.ClaimMapViews
import Derived.JoinedTies
import Derived.KernelRfl
namespace Go.Proofs.Ytcmcmoaikabfoaa
/- THE CELL 'sum', in the pinned program and in every row, IS THE sha256 OF THE DUMP (.gsa) THAT YtcmcmoaikabfoaaProg.lean LOADS. Nothing in Lean hashes anything: it is a label: what it is worth is what the hold of that sum in a sandbox is worth. -/
noncomputable def Try.pinned : Pinned := { name := "ytcmcmoaikabfoaa", sum := "eddaff506c4bed6bf3d87d614748d63bd4bfa249c4551e80ff4887de2ac6f637", checked := Try.checked }
namespace Rows
def none {H : Type} : Left H := { results := [], args := [] }

/-- 'barscanlaw31.RasterCrops': WHATEVER THE INPUT: true; the input reads as it did. -/
def rasterCropsSpec : ChangeSpec := { name := "rasterCrops", fn := fun _ => fun
  | [d1, d2] => { results := [.lit (.bool true)], args := [d1, d2] }
  | _ => none }
def rasterCropsRow : OpenClaim := { program := "ytcmcmoaikabfoaa", sum := "eddaff506c4bed6bf3d87d614748d63bd4bfa249c4551e80ff4887de2ac6f637", func := "barscan/barscanlaw31.RasterCrops", spec := "rasterCrops", unfollowed := true, recurses := true, apart := false }
def RasterCropsSaid : Prop := rasterCropsRow.holds Try.pinned (OpenSpec.ofChange rasterCropsSpec)

/-- ITS FALSE NEIGHBOUR: 'it returns false'. Refute it at one input. -/
def rasterCropsWrong : ChangeSpec := { name := "rasterCrops", fn := fun _ => fun
  | [d1, d2] => { results := [.lit (.bool false)], args := [d1, d2] }
  | _ => none }
def RasterCropsWrongFalsely : Prop := rasterCropsRow.holds Try.pinned (OpenSpec.ofChange rasterCropsWrong)

/-- 'barscanlaw31.RasterBounds': WHATEVER THE INPUT: true; the input reads as it did. -/
def rasterBoundsSpec : ChangeSpec := { name := "rasterBounds", fn := fun _ => fun
  | [d1, d2] => { results := [.lit (.bool true)], args := [d1, d2] }
  | _ => none }
def rasterBoundsRow : OpenClaim := { program := "ytcmcmoaikabfoaa", sum := "eddaff506c4bed6bf3d87d614748d63bd4bfa249c4551e80ff4887de2ac6f637", func := "barscan/barscanlaw31.RasterBounds", spec := "rasterBounds", unfollowed := true, recurses := true, apart := false }
def RasterBoundsSaid : Prop := rasterBoundsRow.holds Try.pinned (OpenSpec.ofChange rasterBoundsSpec)

/-- ITS FALSE NEIGHBOUR: 'it returns false'. Refute it at one input. -/
def rasterBoundsWrong : ChangeSpec := { name := "rasterBounds", fn := fun _ => fun
  | [d1, d2] => { results := [.lit (.bool false)], args := [d1, d2] }
  | _ => none }
def RasterBoundsWrongFalsely : Prop := rasterBoundsRow.holds Try.pinned (OpenSpec.ofChange rasterBoundsWrong)

/-- 'barscanlaw31.RasterPastes': WHATEVER THE INPUT: true; the input reads as it did. -/
def rasterPastesSpec : ChangeSpec := { name := "rasterPastes", fn := fun _ => fun
  | [d1, d2, d3, d4] => { results := [.lit (.bool true)], args := [d1, d2, d3, d4] }
  | _ => none }
def rasterPastesRow : OpenClaim := { program := "ytcmcmoaikabfoaa", sum := "eddaff506c4bed6bf3d87d614748d63bd4bfa249c4551e80ff4887de2ac6f637", func := "barscan/barscanlaw31.RasterPastes", spec := "rasterPastes", unfollowed := true, recurses := true, apart := false }
def RasterPastesSaid : Prop := rasterPastesRow.holds Try.pinned (OpenSpec.ofChange rasterPastesSpec)

/-- ITS FALSE NEIGHBOUR: 'it returns false'. Refute it at one input. -/
def rasterPastesWrong : ChangeSpec := { name := "rasterPastes", fn := fun _ => fun
  | [d1, d2, d3, d4] => { results := [.lit (.bool false)], args := [d1, d2, d3, d4] }
  | _ => none }
def RasterPastesWrongFalsely : Prop := rasterPastesRow.holds Try.pinned (OpenSpec.ofChange rasterPastesWrong)

/-- 'barscanlaw31.RasterPastesBack': WHATEVER THE INPUT: true; the input reads as it did. -/
def rasterPastesBackSpec : ChangeSpec := { name := "rasterPastesBack", fn := fun _ => fun
  | [d1, d2, d3, d4] => { results := [.lit (.bool true)], args := [d1, d2, d3, d4] }
  | _ => none }
def rasterPastesBackRow : OpenClaim := { program := "ytcmcmoaikabfoaa", sum := "eddaff506c4bed6bf3d87d614748d63bd4bfa249c4551e80ff4887de2ac6f637", func := "barscan/barscanlaw31.RasterPastesBack", spec := "rasterPastesBack", unfollowed := true, recurses := true, apart := false }
def RasterPastesBackSaid : Prop := rasterPastesBackRow.holds Try.pinned (OpenSpec.ofChange rasterPastesBackSpec)

/-- ITS FALSE NEIGHBOUR: 'it returns false'. Refute it at one input. -/
def rasterPastesBackWrong : ChangeSpec := { name := "rasterPastesBack", fn := fun _ => fun
  | [d1, d2, d3, d4] => { results := [.lit (.bool false)], args := [d1, d2, d3, d4] }
  | _ => none }
def RasterPastesBackWrongFalsely : Prop := rasterPastesBackRow.holds Try.pinned (OpenSpec.ofChange rasterPastesBackWrong)

/-- 'barscanlaw31.RasterGroup': WHATEVER THE INPUT: true; the input reads as it did. -/
def rasterGroupSpec : ChangeSpec := { name := "rasterGroup", fn := fun _ => fun
  | [d1, d2, d3] => { results := [.lit (.bool true)], args := [d1, d2, d3] }
  | _ => none }
def rasterGroupRow : OpenClaim := { program := "ytcmcmoaikabfoaa", sum := "eddaff506c4bed6bf3d87d614748d63bd4bfa249c4551e80ff4887de2ac6f637", func := "barscan/barscanlaw31.RasterGroup", spec := "rasterGroup", unfollowed := true, recurses := true, apart := false }
def RasterGroupSaid : Prop := rasterGroupRow.holds Try.pinned (OpenSpec.ofChange rasterGroupSpec)

/-- ITS FALSE NEIGHBOUR: 'it returns false'. Refute it at one input. -/
def rasterGroupWrong : ChangeSpec := { name := "rasterGroup", fn := fun _ => fun
  | [d1, d2, d3] => { results := [.lit (.bool false)], args := [d1, d2, d3] }
  | _ => none }
def RasterGroupWrongFalsely : Prop := rasterGroupRow.holds Try.pinned (OpenSpec.ofChange rasterGroupWrong)

/-- 'barscanlaw31.RasterEnlarges': WHATEVER THE INPUT: true; the input reads as it did. -/
def rasterEnlargesSpec : ChangeSpec := { name := "rasterEnlarges", fn := fun _ => fun
  | [d1, d2] => { results := [.lit (.bool true)], args := [d1, d2] }
  | _ => none }
def rasterEnlargesRow : OpenClaim := { program := "ytcmcmoaikabfoaa", sum := "eddaff506c4bed6bf3d87d614748d63bd4bfa249c4551e80ff4887de2ac6f637", func := "barscan/barscanlaw31.RasterEnlarges", spec := "rasterEnlarges", unfollowed := true, recurses := true, apart := false }
def RasterEnlargesSaid : Prop := rasterEnlargesRow.holds Try.pinned (OpenSpec.ofChange rasterEnlargesSpec)

/-- ITS FALSE NEIGHBOUR: 'it returns false'. Refute it at one input. -/
def rasterEnlargesWrong : ChangeSpec := { name := "rasterEnlarges", fn := fun _ => fun
  | [d1, d2] => { results := [.lit (.bool false)], args := [d1, d2] }
  | _ => none }
def RasterEnlargesWrongFalsely : Prop := rasterEnlargesRow.holds Try.pinned (OpenSpec.ofChange rasterEnlargesWrong)

/-- 'barscanlaw31.RasterEnlargesTwice': WHATEVER THE INPUT: true; the input reads as it did. -/
def rasterEnlargesTwiceSpec : ChangeSpec := { name := "rasterEnlargesTwice", fn := fun _ => fun
  | [d1, d2, d3] => { results := [.lit (.bool true)], args := [d1, d2, d3] }
  | _ => none }
def rasterEnlargesTwiceRow : OpenClaim := { program := "ytcmcmoaikabfoaa", sum := "eddaff506c4bed6bf3d87d614748d63bd4bfa249c4551e80ff4887de2ac6f637", func := "barscan/barscanlaw31.RasterEnlargesTwice", spec := "rasterEnlargesTwice", unfollowed := true, recurses := true, apart := false }
def RasterEnlargesTwiceSaid : Prop := rasterEnlargesTwiceRow.holds Try.pinned (OpenSpec.ofChange rasterEnlargesTwiceSpec)

/-- ITS FALSE NEIGHBOUR: 'it returns false'. Refute it at one input. -/
def rasterEnlargesTwiceWrong : ChangeSpec := { name := "rasterEnlargesTwice", fn := fun _ => fun
  | [d1, d2, d3] => { results := [.lit (.bool false)], args := [d1, d2, d3] }
  | _ => none }
def RasterEnlargesTwiceWrongFalsely : Prop := rasterEnlargesTwiceRow.holds Try.pinned (OpenSpec.ofChange rasterEnlargesTwiceWrong)

/-- 'barscanlaw31.RasterMakes': WHATEVER THE INPUT: true; the input reads as it did. -/
def rasterMakesSpec : ChangeSpec := { name := "rasterMakes", fn := fun _ => fun
  | [d1, d2, d3, d4, d5, d6] => { results := [.lit (.bool true)], args := [d1, d2, d3, d4, d5, d6] }
  | _ => none }
def rasterMakesRow : OpenClaim := { program := "ytcmcmoaikabfoaa", sum := "eddaff506c4bed6bf3d87d614748d63bd4bfa249c4551e80ff4887de2ac6f637", func := "barscan/barscanlaw31.RasterMakes", spec := "rasterMakes", unfollowed := true, recurses := true, apart := false }
def RasterMakesSaid : Prop := rasterMakesRow.holds Try.pinned (OpenSpec.ofChange rasterMakesSpec)

/-- ITS FALSE NEIGHBOUR: 'it returns false'. Refute it at one input. -/
def rasterMakesWrong : ChangeSpec := { name := "rasterMakes", fn := fun _ => fun
  | [d1, d2, d3, d4, d5, d6] => { results := [.lit (.bool false)], args := [d1, d2, d3, d4, d5, d6] }
  | _ => none }
def RasterMakesWrongFalsely : Prop := rasterMakesRow.holds Try.pinned (OpenSpec.ofChange rasterMakesWrong)

/-- 'barscanlaw31.RasterTurns': WHATEVER THE INPUT: true; the input reads as it did. -/
def rasterTurnsSpec : ChangeSpec := { name := "rasterTurns", fn := fun _ => fun
  | [d1, d2, d3] => { results := [.lit (.bool true)], args := [d1, d2, d3] }
  | _ => none }
def rasterTurnsRow : OpenClaim := { program := "ytcmcmoaikabfoaa", sum := "eddaff506c4bed6bf3d87d614748d63bd4bfa249c4551e80ff4887de2ac6f637", func := "barscan/barscanlaw31.RasterTurns", spec := "rasterTurns", unfollowed := true, recurses := true, apart := false }
def RasterTurnsSaid : Prop := rasterTurnsRow.holds Try.pinned (OpenSpec.ofChange rasterTurnsSpec)

/-- ITS FALSE NEIGHBOUR: 'it returns false'. Refute it at one input. -/
def rasterTurnsWrong : ChangeSpec := { name := "rasterTurns", fn := fun _ => fun
  | [d1, d2, d3] => { results := [.lit (.bool false)], args := [d1, d2, d3] }
  | _ => none }
def RasterTurnsWrongFalsely : Prop := rasterTurnsRow.holds Try.pinned (OpenSpec.ofChange rasterTurnsWrong)

/- THE SECOND FORM. 'bulk': how many values and letters a reading holds, each counted each time it is reached (what is shared counts as often as it is met; a slice's spare places count too). A statement '..UptoSaid' is the law's where the arguments, and the package variables that the reading takes, are together of bulk at most 1048576: NARROWER than '..Said'. Prove '..Said' where nothing that the law and all that it calls make is longer than what came in: it says more and counts as full. Else prove '..UptoSaid'. A law counts once. -/
mutual
def uptoBulk {H : Type} : DataW H → Nat
  | .lit (.string bytes) => bytes.length + 1
  | .lit _ => 1
  | .nil => 1
  | .ptr d => uptoBulk d + 1
  | .slice elems spare => uptoBulkAll elems + uptoBulkAll spare + 1
  | .agg parts => uptoBulkAll parts + 1
  | .iface _ d => uptoBulk d + 1
  | .map entries => uptoBulkEntries entries + 1
  | .held _ => 1
def uptoBulkAll {H : Type} : List (DataW H) → Nat
  | [] => 0
  | d :: r => uptoBulk d + uptoBulkAll r
def uptoBulkEntries {H : Type} : List (Lit × DataW H) → Nat
  | [] => 0
  | x :: r => uptoBulkEntry x + uptoBulkEntries r
def uptoBulkEntry {H : Type} : Lit × DataW H → Nat
  | (.string bytes, d) => bytes.length + uptoBulk d + 1
  | (_, d) => uptoBulk d + 1
 end
def uptoSmall : (H : Type) → List (DataW H) → Bool := fun _ ds => decide (uptoBulkAll ds ≤ 1048576)
def OpenSpec.upto (s : _root_.Go.ChangeSpec) : _root_.Go.OpenSpec := { _root_.Go.OpenSpec.ofChange s with cond := some uptoSmall }

/-- 'barscanlaw31.RasterCrops', WHERE WHAT IT READS IS OF BULK AT MOST 1048576: true; the input reads as it did. -/
def rasterCropsUptoRow : OpenClaim := { program := "ytcmcmoaikabfoaa", sum := "eddaff506c4bed6bf3d87d614748d63bd4bfa249c4551e80ff4887de2ac6f637", func := "barscan/barscanlaw31.RasterCrops", spec := "rasterCrops", unfollowed := true, recurses := true, apart := false, narrowed := true }
def RasterCropsUptoSaid : Prop := rasterCropsUptoRow.holds Try.pinned (OpenSpec.upto rasterCropsSpec)

/-- 'barscanlaw31.RasterBounds', WHERE WHAT IT READS IS OF BULK AT MOST 1048576: true; the input reads as it did. -/
def rasterBoundsUptoRow : OpenClaim := { program := "ytcmcmoaikabfoaa", sum := "eddaff506c4bed6bf3d87d614748d63bd4bfa249c4551e80ff4887de2ac6f637", func := "barscan/barscanlaw31.RasterBounds", spec := "rasterBounds", unfollowed := true, recurses := true, apart := false, narrowed := true }
def RasterBoundsUptoSaid : Prop := rasterBoundsUptoRow.holds Try.pinned (OpenSpec.upto rasterBoundsSpec)

/-- 'barscanlaw31.RasterPastes', WHERE WHAT IT READS IS OF BULK AT MOST 1048576: true; the input reads as it did. -/
def rasterPastesUptoRow : OpenClaim := { program := "ytcmcmoaikabfoaa", sum := "eddaff506c4bed6bf3d87d614748d63bd4bfa249c4551e80ff4887de2ac6f637", func := "barscan/barscanlaw31.RasterPastes", spec := "rasterPastes", unfollowed := true, recurses := true, apart := false, narrowed := true }
def RasterPastesUptoSaid : Prop := rasterPastesUptoRow.holds Try.pinned (OpenSpec.upto rasterPastesSpec)

/-- 'barscanlaw31.RasterPastesBack', WHERE WHAT IT READS IS OF BULK AT MOST 1048576: true; the input reads as it did. -/
def rasterPastesBackUptoRow : OpenClaim := { program := "ytcmcmoaikabfoaa", sum := "eddaff506c4bed6bf3d87d614748d63bd4bfa249c4551e80ff4887de2ac6f637", func := "barscan/barscanlaw31.RasterPastesBack", spec := "rasterPastesBack", unfollowed := true, recurses := true, apart := false, narrowed := true }
def RasterPastesBackUptoSaid : Prop := rasterPastesBackUptoRow.holds Try.pinned (OpenSpec.upto rasterPastesBackSpec)

/-- 'barscanlaw31.RasterGroup', WHERE WHAT IT READS IS OF BULK AT MOST 1048576: true; the input reads as it did. -/
def rasterGroupUptoRow : OpenClaim := { program := "ytcmcmoaikabfoaa", sum := "eddaff506c4bed6bf3d87d614748d63bd4bfa249c4551e80ff4887de2ac6f637", func := "barscan/barscanlaw31.RasterGroup", spec := "rasterGroup", unfollowed := true, recurses := true, apart := false, narrowed := true }
def RasterGroupUptoSaid : Prop := rasterGroupUptoRow.holds Try.pinned (OpenSpec.upto rasterGroupSpec)

/-- 'barscanlaw31.RasterEnlarges', WHERE WHAT IT READS IS OF BULK AT MOST 1048576: true; the input reads as it did. -/
def rasterEnlargesUptoRow : OpenClaim := { program := "ytcmcmoaikabfoaa", sum := "eddaff506c4bed6bf3d87d614748d63bd4bfa249c4551e80ff4887de2ac6f637", func := "barscan/barscanlaw31.RasterEnlarges", spec := "rasterEnlarges", unfollowed := true, recurses := true, apart := false, narrowed := true }
def RasterEnlargesUptoSaid : Prop := rasterEnlargesUptoRow.holds Try.pinned (OpenSpec.upto rasterEnlargesSpec)

/-- 'barscanlaw31.RasterEnlargesTwice', WHERE WHAT IT READS IS OF BULK AT MOST 1048576: true; the input reads as it did. -/
def rasterEnlargesTwiceUptoRow : OpenClaim := { program := "ytcmcmoaikabfoaa", sum := "eddaff506c4bed6bf3d87d614748d63bd4bfa249c4551e80ff4887de2ac6f637", func := "barscan/barscanlaw31.RasterEnlargesTwice", spec := "rasterEnlargesTwice", unfollowed := true, recurses := true, apart := false, narrowed := true }
def RasterEnlargesTwiceUptoSaid : Prop := rasterEnlargesTwiceUptoRow.holds Try.pinned (OpenSpec.upto rasterEnlargesTwiceSpec)

/-- 'barscanlaw31.RasterMakes', WHERE WHAT IT READS IS OF BULK AT MOST 1048576: true; the input reads as it did. -/
def rasterMakesUptoRow : OpenClaim := { program := "ytcmcmoaikabfoaa", sum := "eddaff506c4bed6bf3d87d614748d63bd4bfa249c4551e80ff4887de2ac6f637", func := "barscan/barscanlaw31.RasterMakes", spec := "rasterMakes", unfollowed := true, recurses := true, apart := false, narrowed := true }
def RasterMakesUptoSaid : Prop := rasterMakesUptoRow.holds Try.pinned (OpenSpec.upto rasterMakesSpec)

/-- 'barscanlaw31.RasterTurns', WHERE WHAT IT READS IS OF BULK AT MOST 1048576: true; the input reads as it did. -/
def rasterTurnsUptoRow : OpenClaim := { program := "ytcmcmoaikabfoaa", sum := "eddaff506c4bed6bf3d87d614748d63bd4bfa249c4551e80ff4887de2ac6f637", func := "barscan/barscanlaw31.RasterTurns", spec := "rasterTurns", unfollowed := true, recurses := true, apart := false, narrowed := true }
def RasterTurnsUptoSaid : Prop := rasterTurnsUptoRow.holds Try.pinned (OpenSpec.upto rasterTurnsSpec)

end Rows
end Go.Proofs.Ytcmcmoaikabfoaa
