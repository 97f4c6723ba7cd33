/-
  No cell of these rows narrows 'for every input' (looked for: loops, veiled, ifaces, maps, wideKeys, modest, calm, conditions, laid).
  DERIVED. THE GIVEN ROWS OF THIS SEAT. 7 by the template 'for every input the law returns true; each argument reads behind the call as it read before'; 0 by the template 'total and deterministic' (their statements: YtijhhcnahepdlaaTotals.lean).
  GIVEN WITH THE SEED: the statements are not yours to turn. If you find one false, say at which input.
  Laid BY PROGRAM, IN A SANDBOX (cutbox-rows.mjs): the forced cells as the released guide's own fill.sh prints them over the translation 2bcbcb53fb132ea6… (all of the seat's roots in one cut). By AI agents, Wed Nov 11 2026. No macro, syntax, notation, axiom, sorry.
-/
import Derived.Test.YtijhhcnahepdlaaChecked
import GoSem.Claim
import GoSem.ClaimJoined
import GoSem.ClaimMapViews
import Derived.JoinedTies
import Derived.KernelRfl
namespace Go.Proofs.Ytijhhcnahepdlaa
/- THE CELL 'sum', in the pinned program and in every row, IS THE sha256 OF THE DUMP (.gsa) THAT YtijhhcnahepdlaaProg.lean LOADS. Nothing in Lean hashes anything: it is a label: what it is worth is what the hold of that sum in a sandbox is worth. -/
noncomputable def Try.pinned : Pinned := { name := "ytijhhcnahepdlaa", sum := "2bcbcb53fb132ea6fb2c649f0628c9f6a56912136b07359b93cfdbf5904c5277", checked := Try.checked }
namespace Rows
def none {H : Type} : Left H := { results := [], args := [] }

/-- 'althinglaw3.GridStops': WHATEVER THE INPUT: true; the input reads as it did. -/
def gridStopsSpec : ChangeSpec := { name := "gridStops", fn := fun _ => fun
  | [d1, d2] => { results := [.lit (.bool true)], args := [d1, d2] }
  | _ => none }
def gridStopsRow : OpenClaim := { program := "ytijhhcnahepdlaa", sum := "2bcbcb53fb132ea6fb2c649f0628c9f6a56912136b07359b93cfdbf5904c5277", func := "althing/althinglaw3.GridStops", spec := "gridStops", inPlace := ["slices.overlaps[althing/grid.cell[int]]"], unfollowed := true, recurses := true, apart := false }
def GridStopsSaid : Prop := gridStopsRow.holds Try.pinned (OpenSpec.ofChange gridStopsSpec)

/-- ITS FALSE NEIGHBOUR: 'it returns false'. Refute it at one input. -/
def gridStopsWrong : ChangeSpec := { name := "gridStops", fn := fun _ => fun
  | [d1, d2] => { results := [.lit (.bool false)], args := [d1, d2] }
  | _ => none }
def GridStopsWrongFalsely : Prop := gridStopsRow.holds Try.pinned (OpenSpec.ofChange gridStopsWrong)

/-- 'althinglaw3.GridTexts': WHATEVER THE INPUT: true; the input reads as it did. -/
def gridTextsSpec : ChangeSpec := { name := "gridTexts", fn := fun _ => fun
  | [d1, d2] => { results := [.lit (.bool true)], args := [d1, d2] }
  | _ => none }
def gridTextsRow : OpenClaim := { program := "ytijhhcnahepdlaa", sum := "2bcbcb53fb132ea6fb2c649f0628c9f6a56912136b07359b93cfdbf5904c5277", func := "althing/althinglaw3.GridTexts", spec := "gridTexts", inPlace := ["slices.overlaps[althing/grid.cell[string]]", "slices.overlaps[althing/grid.cell[int]]"], unfollowed := true, recurses := true, apart := false }
def GridTextsSaid : Prop := gridTextsRow.holds Try.pinned (OpenSpec.ofChange gridTextsSpec)

/-- ITS FALSE NEIGHBOUR: 'it returns false'. Refute it at one input. -/
def gridTextsWrong : ChangeSpec := { name := "gridTexts", fn := fun _ => fun
  | [d1, d2] => { results := [.lit (.bool false)], args := [d1, d2] }
  | _ => none }
def GridTextsWrongFalsely : Prop := gridTextsRow.holds Try.pinned (OpenSpec.ofChange gridTextsWrong)

/-- 'althinglaw3.GridSwaps': WHATEVER THE INPUT: true; the input reads as it did. -/
def gridSwapsSpec : ChangeSpec := { name := "gridSwaps", fn := fun _ => fun
  | [d1, d2] => { results := [.lit (.bool true)], args := [d1, d2] }
  | _ => none }
def gridSwapsRow : OpenClaim := { program := "ytijhhcnahepdlaa", sum := "2bcbcb53fb132ea6fb2c649f0628c9f6a56912136b07359b93cfdbf5904c5277", func := "althing/althinglaw3.GridSwaps", spec := "gridSwaps", inPlace := ["slices.overlaps[althing/grid.cell[int]]"], unfollowed := true, recurses := true, apart := false }
def GridSwapsSaid : Prop := gridSwapsRow.holds Try.pinned (OpenSpec.ofChange gridSwapsSpec)

/-- ITS FALSE NEIGHBOUR: 'it returns false'. Refute it at one input. -/
def gridSwapsWrong : ChangeSpec := { name := "gridSwaps", fn := fun _ => fun
  | [d1, d2] => { results := [.lit (.bool false)], args := [d1, d2] }
  | _ => none }
def GridSwapsWrongFalsely : Prop := gridSwapsRow.holds Try.pinned (OpenSpec.ofChange gridSwapsWrong)

/-- 'althinglaw3.GridPlays': WHATEVER THE INPUT: true; the input reads as it did. -/
def gridPlaysSpec : ChangeSpec := { name := "gridPlays", fn := fun _ => fun
  | [d] => { results := [.lit (.bool true)], args := [d] }
  | _ => none }
def gridPlaysRow : OpenClaim := { program := "ytijhhcnahepdlaa", sum := "2bcbcb53fb132ea6fb2c649f0628c9f6a56912136b07359b93cfdbf5904c5277", func := "althing/althinglaw3.GridPlays", spec := "gridPlays", inPlace := ["slices.overlaps[althing/grid.cell[int]]"], unfollowed := true, recurses := true, apart := false }
def GridPlaysSaid : Prop := gridPlaysRow.holds Try.pinned (OpenSpec.ofChange gridPlaysSpec)

/-- ITS FALSE NEIGHBOUR: 'it returns false'. Refute it at one input. -/
def gridPlaysWrong : ChangeSpec := { name := "gridPlays", fn := fun _ => fun
  | [d] => { results := [.lit (.bool false)], args := [d] }
  | _ => none }
def GridPlaysWrongFalsely : Prop := gridPlaysRow.holds Try.pinned (OpenSpec.ofChange gridPlaysWrong)

/-- 'althinglaw3.GridRows': WHATEVER THE INPUT: true; the input reads as it did. -/
def gridRowsSpec : ChangeSpec := { name := "gridRows", fn := fun _ => fun
  | [d1, d2, d3] => { results := [.lit (.bool true)], args := [d1, d2, d3] }
  | _ => none }
def gridRowsRow : OpenClaim := { program := "ytijhhcnahepdlaa", sum := "2bcbcb53fb132ea6fb2c649f0628c9f6a56912136b07359b93cfdbf5904c5277", func := "althing/althinglaw3.GridRows", spec := "gridRows", inPlace := ["slices.overlaps[althing/grid.cell[int]]"], unfollowed := true, recurses := true, apart := false }
def GridRowsSaid : Prop := gridRowsRow.holds Try.pinned (OpenSpec.ofChange gridRowsSpec)

/-- ITS FALSE NEIGHBOUR: 'it returns false'. Refute it at one input. -/
def gridRowsWrong : ChangeSpec := { name := "gridRows", fn := fun _ => fun
  | [d1, d2, d3] => { results := [.lit (.bool false)], args := [d1, d2, d3] }
  | _ => none }
def GridRowsWrongFalsely : Prop := gridRowsRow.holds Try.pinned (OpenSpec.ofChange gridRowsWrong)

/-- 'althinglaw3.GridMeanwhile': WHATEVER THE INPUT: true; the input reads as it did. -/
def gridMeanwhileSpec : ChangeSpec := { name := "gridMeanwhile", fn := fun _ => fun
  | [d1, d2, d3, d4] => { results := [.lit (.bool true)], args := [d1, d2, d3, d4] }
  | _ => none }
def gridMeanwhileRow : OpenClaim := { program := "ytijhhcnahepdlaa", sum := "2bcbcb53fb132ea6fb2c649f0628c9f6a56912136b07359b93cfdbf5904c5277", func := "althing/althinglaw3.GridMeanwhile", spec := "gridMeanwhile", inPlace := ["slices.overlaps[althing/grid.cell[int]]"], unfollowed := true, recurses := true, apart := false }
def GridMeanwhileSaid : Prop := gridMeanwhileRow.holds Try.pinned (OpenSpec.ofChange gridMeanwhileSpec)

/-- ITS FALSE NEIGHBOUR: 'it returns false'. Refute it at one input. -/
def gridMeanwhileWrong : ChangeSpec := { name := "gridMeanwhile", fn := fun _ => fun
  | [d1, d2, d3, d4] => { results := [.lit (.bool false)], args := [d1, d2, d3, d4] }
  | _ => none }
def GridMeanwhileWrongFalsely : Prop := gridMeanwhileRow.holds Try.pinned (OpenSpec.ofChange gridMeanwhileWrong)

/-- 'althinglaw3.GridOfNothing': WHATEVER THE INPUT: true; the input reads as it did. -/
def gridOfNothingSpec : ChangeSpec := { name := "gridOfNothing", fn := fun _ => fun
  | [d1, d2] => { results := [.lit (.bool true)], args := [d1, d2] }
  | _ => none }
def gridOfNothingRow : OpenClaim := { program := "ytijhhcnahepdlaa", sum := "2bcbcb53fb132ea6fb2c649f0628c9f6a56912136b07359b93cfdbf5904c5277", func := "althing/althinglaw3.GridOfNothing", spec := "gridOfNothing", inPlace := ["slices.overlaps[althing/grid.cell[int]]"], unfollowed := true, recurses := true, apart := false }
def GridOfNothingSaid : Prop := gridOfNothingRow.holds Try.pinned (OpenSpec.ofChange gridOfNothingSpec)

/-- ITS FALSE NEIGHBOUR: 'it returns false'. Refute it at one input. -/
def gridOfNothingWrong : ChangeSpec := { name := "gridOfNothing", fn := fun _ => fun
  | [d1, d2] => { results := [.lit (.bool false)], args := [d1, d2] }
  | _ => none }
def GridOfNothingWrongFalsely : Prop := gridOfNothingRow.holds Try.pinned (OpenSpec.ofChange gridOfNothingWrong)

/- THE SECOND FORM. 'bulk': how many values and letters a reading holds, each counted each time it is reached (what is shared counts as often as it is met; a slice's spare places count too). A statement '..UptoSaid' is the law's where the arguments, and the package variables that the reading takes, are together of bulk at most 1048576: NARROWER than '..Said'. Prove '..Said' where nothing that the law and all that it calls make is longer than what came in: it says more and counts as full. Else prove '..UptoSaid'. A law counts once. -/
mutual
def uptoBulk {H : Type} : DataW H → Nat
  | .lit (.string bytes) => bytes.length + 1
  | .lit _ => 1
  | .nil => 1
  | .ptr d => uptoBulk d + 1
  | .slice elems spare => uptoBulkAll elems + uptoBulkAll spare + 1
  | .agg parts => uptoBulkAll parts + 1
  | .iface _ d => uptoBulk d + 1
  | .map entries => uptoBulkEntries entries + 1
  | .held _ => 1
def uptoBulkAll {H : Type} : List (DataW H) → Nat
  | [] => 0
  | d :: r => uptoBulk d + uptoBulkAll r
def uptoBulkEntries {H : Type} : List (Lit × DataW H) → Nat
  | [] => 0
  | x :: r => uptoBulkEntry x + uptoBulkEntries r
def uptoBulkEntry {H : Type} : Lit × DataW H → Nat
  | (.string bytes, d) => bytes.length + uptoBulk d + 1
  | (_, d) => uptoBulk d + 1
 end
def uptoSmall : (H : Type) → List (DataW H) → Bool := fun _ ds => decide (uptoBulkAll ds ≤ 1048576)
def OpenSpec.upto (s : _root_.Go.ChangeSpec) : _root_.Go.OpenSpec := { _root_.Go.OpenSpec.ofChange s with cond := some uptoSmall }

/-- 'althinglaw3.GridStops', WHERE WHAT IT READS IS OF BULK AT MOST 1048576: true; the input reads as it did. -/
def gridStopsUptoRow : OpenClaim := { program := "ytijhhcnahepdlaa", sum := "2bcbcb53fb132ea6fb2c649f0628c9f6a56912136b07359b93cfdbf5904c5277", func := "althing/althinglaw3.GridStops", spec := "gridStops", inPlace := ["slices.overlaps[althing/grid.cell[int]]"], unfollowed := true, recurses := true, apart := false, narrowed := true }
def GridStopsUptoSaid : Prop := gridStopsUptoRow.holds Try.pinned (OpenSpec.upto gridStopsSpec)

/-- 'althinglaw3.GridTexts', WHERE WHAT IT READS IS OF BULK AT MOST 1048576: true; the input reads as it did. -/
def gridTextsUptoRow : OpenClaim := { program := "ytijhhcnahepdlaa", sum := "2bcbcb53fb132ea6fb2c649f0628c9f6a56912136b07359b93cfdbf5904c5277", func := "althing/althinglaw3.GridTexts", spec := "gridTexts", inPlace := ["slices.overlaps[althing/grid.cell[string]]", "slices.overlaps[althing/grid.cell[int]]"], unfollowed := true, recurses := true, apart := false, narrowed := true }
def GridTextsUptoSaid : Prop := gridTextsUptoRow.holds Try.pinned (OpenSpec.upto gridTextsSpec)

/-- 'althinglaw3.GridSwaps', WHERE WHAT IT READS IS OF BULK AT MOST 1048576: true; the input reads as it did. -/
def gridSwapsUptoRow : OpenClaim := { program := "ytijhhcnahepdlaa", sum := "2bcbcb53fb132ea6fb2c649f0628c9f6a56912136b07359b93cfdbf5904c5277", func := "althing/althinglaw3.GridSwaps", spec := "gridSwaps", inPlace := ["slices.overlaps[althing/grid.cell[int]]"], unfollowed := true, recurses := true, apart := false, narrowed := true }
def GridSwapsUptoSaid : Prop := gridSwapsUptoRow.holds Try.pinned (OpenSpec.upto gridSwapsSpec)

/-- 'althinglaw3.GridPlays', WHERE WHAT IT READS IS OF BULK AT MOST 1048576: true; the input reads as it did. -/
def gridPlaysUptoRow : OpenClaim := { program := "ytijhhcnahepdlaa", sum := "2bcbcb53fb132ea6fb2c649f0628c9f6a56912136b07359b93cfdbf5904c5277", func := "althing/althinglaw3.GridPlays", spec := "gridPlays", inPlace := ["slices.overlaps[althing/grid.cell[int]]"], unfollowed := true, recurses := true, apart := false, narrowed := true }
def GridPlaysUptoSaid : Prop := gridPlaysUptoRow.holds Try.pinned (OpenSpec.upto gridPlaysSpec)

/-- 'althinglaw3.GridRows', WHERE WHAT IT READS IS OF BULK AT MOST 1048576: true; the input reads as it did. -/
def gridRowsUptoRow : OpenClaim := { program := "ytijhhcnahepdlaa", sum := "2bcbcb53fb132ea6fb2c649f0628c9f6a56912136b07359b93cfdbf5904c5277", func := "althing/althinglaw3.GridRows", spec := "gridRows", inPlace := ["slices.overlaps[althing/grid.cell[int]]"], unfollowed := true, recurses := true, apart := false, narrowed := true }
def GridRowsUptoSaid : Prop := gridRowsUptoRow.holds Try.pinned (OpenSpec.upto gridRowsSpec)

/-- 'althinglaw3.GridMeanwhile', WHERE WHAT IT READS IS OF BULK AT MOST 1048576: true; the input reads as it did. -/
def gridMeanwhileUptoRow : OpenClaim := { program := "ytijhhcnahepdlaa", sum := "2bcbcb53fb132ea6fb2c649f0628c9f6a56912136b07359b93cfdbf5904c5277", func := "althing/althinglaw3.GridMeanwhile", spec := "gridMeanwhile", inPlace := ["slices.overlaps[althing/grid.cell[int]]"], unfollowed := true, recurses := true, apart := false, narrowed := true }
def GridMeanwhileUptoSaid : Prop := gridMeanwhileUptoRow.holds Try.pinned (OpenSpec.upto gridMeanwhileSpec)

/-- 'althinglaw3.GridOfNothing', WHERE WHAT IT READS IS OF BULK AT MOST 1048576: true; the input reads as it did. -/
def gridOfNothingUptoRow : OpenClaim := { program := "ytijhhcnahepdlaa", sum := "2bcbcb53fb132ea6fb2c649f0628c9f6a56912136b07359b93cfdbf5904c5277", func := "althing/althinglaw3.GridOfNothing", spec := "gridOfNothing", inPlace := ["slices.overlaps[althing/grid.cell[int]]"], unfollowed := true, recurses := true, apart := false, narrowed := true }
def GridOfNothingUptoSaid : Prop := gridOfNothingUptoRow.holds Try.pinned (OpenSpec.upto gridOfNothingSpec)

end Rows
end Go.Proofs.Ytijhhcnahepdlaa
