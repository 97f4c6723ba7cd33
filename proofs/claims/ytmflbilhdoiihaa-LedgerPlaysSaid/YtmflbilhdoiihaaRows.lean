/-
  No cell of these rows narrows 'for every input' (looked for: loops, veiled, ifaces, maps, wideKeys, modest, calm, conditions, laid).
  DERIVED. THE GIVEN ROWS OF THIS SEAT. 11 by the template 'for every input the law returns true; each argument reads behind the call as it read before'; 0 by the template 'total and deterministic' (their statements: YtmflbilhdoiihaaTotals.lean).
  GIVEN WITH THE SEED: the statements are not yours to turn. If you find one false, say at which input.
  Laid BY PROGRAM, IN A SANDBOX (cutbox-rows.mjs): the forced cells as the released guide's own fill.sh prints them over the translation f5f49c602e49dabc… (all of the seat's roots in one cut). By AI agents, Wed Nov 11 2026. No macro, syntax, notation, axiom, sorry.
-/
import Derived.Test.YtmflbilhdoiihaaChecked
import GoSem.Claim
import GoSem.ClaimJoined
import GoSem.ClaimMapViews
import Derived.JoinedTies
import Derived.KernelRfl
namespace Go.Proofs.Ytmflbilhdoiihaa
/- THE CELL 'sum', in the pinned program and in every row, IS THE sha256 OF THE DUMP (.gsa) THAT YtmflbilhdoiihaaProg.lean LOADS. Nothing in Lean hashes anything: it is a label: what it is worth is what the hold of that sum in a sandbox is worth. -/
noncomputable def Try.pinned : Pinned := { name := "ytmflbilhdoiihaa", sum := "f5f49c602e49dabc75c8807c95966dc9b2d306f370b2917f0a4d6bc2d562de67", checked := Try.checked }
namespace Rows
def none {H : Type} : Left H := { results := [], args := [] }

/-- 'althinglaw6.LedgerLocks': WHATEVER THE INPUT: true; the input reads as it did. -/
def ledgerLocksSpec : ChangeSpec := { name := "ledgerLocks", fn := fun _ => fun
  | [d1, d2, d3, d4] => { results := [.lit (.bool true)], args := [d1, d2, d3, d4] }
  | _ => none }
def ledgerLocksRow : OpenClaim := { program := "ytmflbilhdoiihaa", sum := "f5f49c602e49dabc75c8807c95966dc9b2d306f370b2917f0a4d6bc2d562de67", func := "althing/althinglaw6.LedgerLocks", spec := "ledgerLocks", inPlace := ["slices.overlaps[althing/grid.cell[int]]"], unfollowed := true, recurses := true, apart := false }
def LedgerLocksSaid : Prop := ledgerLocksRow.holds Try.pinned (OpenSpec.ofChange ledgerLocksSpec)

/-- ITS FALSE NEIGHBOUR: 'it returns false'. Refute it at one input. -/
def ledgerLocksWrong : ChangeSpec := { name := "ledgerLocks", fn := fun _ => fun
  | [d1, d2, d3, d4] => { results := [.lit (.bool false)], args := [d1, d2, d3, d4] }
  | _ => none }
def LedgerLocksWrongFalsely : Prop := ledgerLocksRow.holds Try.pinned (OpenSpec.ofChange ledgerLocksWrong)

/-- 'althinglaw6.LedgerNew': WHATEVER THE INPUT: true; the input reads as it did. -/
def ledgerNewSpec : ChangeSpec := { name := "ledgerNew", fn := fun _ => fun
  | [d] => { results := [.lit (.bool true)], args := [d] }
  | _ => none }
def ledgerNewRow : OpenClaim := { program := "ytmflbilhdoiihaa", sum := "f5f49c602e49dabc75c8807c95966dc9b2d306f370b2917f0a4d6bc2d562de67", func := "althing/althinglaw6.LedgerNew", spec := "ledgerNew", inPlace := ["slices.overlaps[althing/grid.cell[int]]"], unfollowed := true, recurses := true, apart := false }
def LedgerNewSaid : Prop := ledgerNewRow.holds Try.pinned (OpenSpec.ofChange ledgerNewSpec)

/-- ITS FALSE NEIGHBOUR: 'it returns false'. Refute it at one input. -/
def ledgerNewWrong : ChangeSpec := { name := "ledgerNew", fn := fun _ => fun
  | [d] => { results := [.lit (.bool false)], args := [d] }
  | _ => none }
def LedgerNewWrongFalsely : Prop := ledgerNewRow.holds Try.pinned (OpenSpec.ofChange ledgerNewWrong)

/-- 'althinglaw6.LedgerWay': WHATEVER THE INPUT: true; the input reads as it did. -/
def ledgerWaySpec : ChangeSpec := { name := "ledgerWay", fn := fun _ => fun
  | [d1, d2] => { results := [.lit (.bool true)], args := [d1, d2] }
  | _ => none }
def ledgerWayRow : OpenClaim := { program := "ytmflbilhdoiihaa", sum := "f5f49c602e49dabc75c8807c95966dc9b2d306f370b2917f0a4d6bc2d562de67", func := "althing/althinglaw6.LedgerWay", spec := "ledgerWay", inPlace := ["slices.overlaps[althing/grid.cell[int]]"], unfollowed := true, recurses := true, apart := false }
def LedgerWaySaid : Prop := ledgerWayRow.holds Try.pinned (OpenSpec.ofChange ledgerWaySpec)

/-- ITS FALSE NEIGHBOUR: 'it returns false'. Refute it at one input. -/
def ledgerWayWrong : ChangeSpec := { name := "ledgerWay", fn := fun _ => fun
  | [d1, d2] => { results := [.lit (.bool false)], args := [d1, d2] }
  | _ => none }
def LedgerWayWrongFalsely : Prop := ledgerWayRow.holds Try.pinned (OpenSpec.ofChange ledgerWayWrong)

/-- 'althinglaw6.LedgerSelf': WHATEVER THE INPUT: true; the input reads as it did. -/
def ledgerSelfSpec : ChangeSpec := { name := "ledgerSelf", fn := fun _ => fun
  | [d1, d2, d3] => { results := [.lit (.bool true)], args := [d1, d2, d3] }
  | _ => none }
def ledgerSelfRow : OpenClaim := { program := "ytmflbilhdoiihaa", sum := "f5f49c602e49dabc75c8807c95966dc9b2d306f370b2917f0a4d6bc2d562de67", func := "althing/althinglaw6.LedgerSelf", spec := "ledgerSelf", inPlace := ["slices.overlaps[althing/grid.cell[int]]"], unfollowed := true, recurses := true, apart := false }
def LedgerSelfSaid : Prop := ledgerSelfRow.holds Try.pinned (OpenSpec.ofChange ledgerSelfSpec)

/-- ITS FALSE NEIGHBOUR: 'it returns false'. Refute it at one input. -/
def ledgerSelfWrong : ChangeSpec := { name := "ledgerSelf", fn := fun _ => fun
  | [d1, d2, d3] => { results := [.lit (.bool false)], args := [d1, d2, d3] }
  | _ => none }
def LedgerSelfWrongFalsely : Prop := ledgerSelfRow.holds Try.pinned (OpenSpec.ofChange ledgerSelfWrong)

/-- 'althinglaw6.LedgerMints': WHATEVER THE INPUT: true; the input reads as it did. -/
def ledgerMintsSpec : ChangeSpec := { name := "ledgerMints", fn := fun _ => fun
  | [d1, d2] => { results := [.lit (.bool true)], args := [d1, d2] }
  | _ => none }
def ledgerMintsRow : OpenClaim := { program := "ytmflbilhdoiihaa", sum := "f5f49c602e49dabc75c8807c95966dc9b2d306f370b2917f0a4d6bc2d562de67", func := "althing/althinglaw6.LedgerMints", spec := "ledgerMints", inPlace := ["slices.overlaps[althing/grid.cell[int]]"], unfollowed := true, recurses := true, apart := false }
def LedgerMintsSaid : Prop := ledgerMintsRow.holds Try.pinned (OpenSpec.ofChange ledgerMintsSpec)

/-- ITS FALSE NEIGHBOUR: 'it returns false'. Refute it at one input. -/
def ledgerMintsWrong : ChangeSpec := { name := "ledgerMints", fn := fun _ => fun
  | [d1, d2] => { results := [.lit (.bool false)], args := [d1, d2] }
  | _ => none }
def LedgerMintsWrongFalsely : Prop := ledgerMintsRow.holds Try.pinned (OpenSpec.ofChange ledgerMintsWrong)

/-- 'althinglaw6.LedgerErrs': WHATEVER THE INPUT: true; the input reads as it did. -/
def ledgerErrsSpec : ChangeSpec := { name := "ledgerErrs", fn := fun _ => fun
  | [d1, d2, d3] => { results := [.lit (.bool true)], args := [d1, d2, d3] }
  | _ => none }
def ledgerErrsRow : OpenClaim := { program := "ytmflbilhdoiihaa", sum := "f5f49c602e49dabc75c8807c95966dc9b2d306f370b2917f0a4d6bc2d562de67", func := "althing/althinglaw6.LedgerErrs", spec := "ledgerErrs", inPlace := ["slices.overlaps[althing/grid.cell[int]]"], unfollowed := true, recurses := true, apart := false }
def LedgerErrsSaid : Prop := ledgerErrsRow.holds Try.pinned (OpenSpec.ofChange ledgerErrsSpec)

/-- ITS FALSE NEIGHBOUR: 'it returns false'. Refute it at one input. -/
def ledgerErrsWrong : ChangeSpec := { name := "ledgerErrs", fn := fun _ => fun
  | [d1, d2, d3] => { results := [.lit (.bool false)], args := [d1, d2, d3] }
  | _ => none }
def LedgerErrsWrongFalsely : Prop := ledgerErrsRow.holds Try.pinned (OpenSpec.ofChange ledgerErrsWrong)

/-- 'althinglaw6.LedgerHolds': WHATEVER THE INPUT: true; the input reads as it did. -/
def ledgerHoldsSpec : ChangeSpec := { name := "ledgerHolds", fn := fun _ => fun
  | [d1, d2, d3, d4] => { results := [.lit (.bool true)], args := [d1, d2, d3, d4] }
  | _ => none }
def ledgerHoldsRow : OpenClaim := { program := "ytmflbilhdoiihaa", sum := "f5f49c602e49dabc75c8807c95966dc9b2d306f370b2917f0a4d6bc2d562de67", func := "althing/althinglaw6.LedgerHolds", spec := "ledgerHolds", inPlace := ["slices.overlaps[althing/grid.cell[int]]"], unfollowed := true, recurses := true, apart := false }
def LedgerHoldsSaid : Prop := ledgerHoldsRow.holds Try.pinned (OpenSpec.ofChange ledgerHoldsSpec)

/-- ITS FALSE NEIGHBOUR: 'it returns false'. Refute it at one input. -/
def ledgerHoldsWrong : ChangeSpec := { name := "ledgerHolds", fn := fun _ => fun
  | [d1, d2, d3, d4] => { results := [.lit (.bool false)], args := [d1, d2, d3, d4] }
  | _ => none }
def LedgerHoldsWrongFalsely : Prop := ledgerHoldsRow.holds Try.pinned (OpenSpec.ofChange ledgerHoldsWrong)

/-- 'althinglaw6.LedgerGuards': WHATEVER THE INPUT: true; the input reads as it did. -/
def ledgerGuardsSpec : ChangeSpec := { name := "ledgerGuards", fn := fun _ => fun
  | [d1, d2] => { results := [.lit (.bool true)], args := [d1, d2] }
  | _ => none }
def ledgerGuardsRow : OpenClaim := { program := "ytmflbilhdoiihaa", sum := "f5f49c602e49dabc75c8807c95966dc9b2d306f370b2917f0a4d6bc2d562de67", func := "althing/althinglaw6.LedgerGuards", spec := "ledgerGuards", inPlace := ["slices.overlaps[althing/grid.cell[int]]"], unfollowed := true, recurses := true, apart := false }
def LedgerGuardsSaid : Prop := ledgerGuardsRow.holds Try.pinned (OpenSpec.ofChange ledgerGuardsSpec)

/-- ITS FALSE NEIGHBOUR: 'it returns false'. Refute it at one input. -/
def ledgerGuardsWrong : ChangeSpec := { name := "ledgerGuards", fn := fun _ => fun
  | [d1, d2] => { results := [.lit (.bool false)], args := [d1, d2] }
  | _ => none }
def LedgerGuardsWrongFalsely : Prop := ledgerGuardsRow.holds Try.pinned (OpenSpec.ofChange ledgerGuardsWrong)

/-- 'althinglaw6.LedgerPlays': WHATEVER THE INPUT: true; the input reads as it did. -/
def ledgerPlaysSpec : ChangeSpec := { name := "ledgerPlays", fn := fun _ => fun
  | [d1, d2] => { results := [.lit (.bool true)], args := [d1, d2] }
  | _ => none }
def ledgerPlaysRow : OpenClaim := { program := "ytmflbilhdoiihaa", sum := "f5f49c602e49dabc75c8807c95966dc9b2d306f370b2917f0a4d6bc2d562de67", func := "althing/althinglaw6.LedgerPlays", spec := "ledgerPlays", inPlace := ["slices.overlaps[althing/grid.cell[int]]"], unfollowed := true, recurses := true, apart := false }
def LedgerPlaysSaid : Prop := ledgerPlaysRow.holds Try.pinned (OpenSpec.ofChange ledgerPlaysSpec)

/-- ITS FALSE NEIGHBOUR: 'it returns false'. Refute it at one input. -/
def ledgerPlaysWrong : ChangeSpec := { name := "ledgerPlays", fn := fun _ => fun
  | [d1, d2] => { results := [.lit (.bool false)], args := [d1, d2] }
  | _ => none }
def LedgerPlaysWrongFalsely : Prop := ledgerPlaysRow.holds Try.pinned (OpenSpec.ofChange ledgerPlaysWrong)

/-- 'althinglaw6.LedgerIssues': WHATEVER THE INPUT: true; the input reads as it did. -/
def ledgerIssuesSpec : ChangeSpec := { name := "ledgerIssues", fn := fun _ => fun
  | [d1, d2] => { results := [.lit (.bool true)], args := [d1, d2] }
  | _ => none }
def ledgerIssuesRow : OpenClaim := { program := "ytmflbilhdoiihaa", sum := "f5f49c602e49dabc75c8807c95966dc9b2d306f370b2917f0a4d6bc2d562de67", func := "althing/althinglaw6.LedgerIssues", spec := "ledgerIssues", inPlace := ["slices.overlaps[althing/grid.cell[int]]"], unfollowed := true, recurses := true, apart := false }
def LedgerIssuesSaid : Prop := ledgerIssuesRow.holds Try.pinned (OpenSpec.ofChange ledgerIssuesSpec)

/-- ITS FALSE NEIGHBOUR: 'it returns false'. Refute it at one input. -/
def ledgerIssuesWrong : ChangeSpec := { name := "ledgerIssues", fn := fun _ => fun
  | [d1, d2] => { results := [.lit (.bool false)], args := [d1, d2] }
  | _ => none }
def LedgerIssuesWrongFalsely : Prop := ledgerIssuesRow.holds Try.pinned (OpenSpec.ofChange ledgerIssuesWrong)

/-- 'althinglaw6.LedgerOfNothing': WHATEVER THE INPUT: true; the input reads as it did. -/
def ledgerOfNothingSpec : ChangeSpec := { name := "ledgerOfNothing", fn := fun _ => fun
  | [d1, d2] => { results := [.lit (.bool true)], args := [d1, d2] }
  | _ => none }
def ledgerOfNothingRow : OpenClaim := { program := "ytmflbilhdoiihaa", sum := "f5f49c602e49dabc75c8807c95966dc9b2d306f370b2917f0a4d6bc2d562de67", func := "althing/althinglaw6.LedgerOfNothing", spec := "ledgerOfNothing", inPlace := ["slices.overlaps[althing/grid.cell[int]]"], unfollowed := true, recurses := true, apart := false }
def LedgerOfNothingSaid : Prop := ledgerOfNothingRow.holds Try.pinned (OpenSpec.ofChange ledgerOfNothingSpec)

/-- ITS FALSE NEIGHBOUR: 'it returns false'. Refute it at one input. -/
def ledgerOfNothingWrong : ChangeSpec := { name := "ledgerOfNothing", fn := fun _ => fun
  | [d1, d2] => { results := [.lit (.bool false)], args := [d1, d2] }
  | _ => none }
def LedgerOfNothingWrongFalsely : Prop := ledgerOfNothingRow.holds Try.pinned (OpenSpec.ofChange ledgerOfNothingWrong)

/- THE SECOND FORM. 'bulk': how many values and letters a reading holds, each counted each time it is reached (what is shared counts as often as it is met; a slice's spare places count too). A statement '..UptoSaid' is the law's where the arguments, and the package variables that the reading takes, are together of bulk at most 1048576: NARROWER than '..Said'. Prove '..Said' where nothing that the law and all that it calls make is longer than what came in: it says more and counts as full. Else prove '..UptoSaid'. A law counts once. -/
mutual
def uptoBulk {H : Type} : DataW H → Nat
  | .lit (.string bytes) => bytes.length + 1
  | .lit _ => 1
  | .nil => 1
  | .ptr d => uptoBulk d + 1
  | .slice elems spare => uptoBulkAll elems + uptoBulkAll spare + 1
  | .agg parts => uptoBulkAll parts + 1
  | .iface _ d => uptoBulk d + 1
  | .map entries => uptoBulkEntries entries + 1
  | .held _ => 1
def uptoBulkAll {H : Type} : List (DataW H) → Nat
  | [] => 0
  | d :: r => uptoBulk d + uptoBulkAll r
def uptoBulkEntries {H : Type} : List (Lit × DataW H) → Nat
  | [] => 0
  | x :: r => uptoBulkEntry x + uptoBulkEntries r
def uptoBulkEntry {H : Type} : Lit × DataW H → Nat
  | (.string bytes, d) => bytes.length + uptoBulk d + 1
  | (_, d) => uptoBulk d + 1
 end
def uptoSmall : (H : Type) → List (DataW H) → Bool := fun _ ds => decide (uptoBulkAll ds ≤ 1048576)
def OpenSpec.upto (s : _root_.Go.ChangeSpec) : _root_.Go.OpenSpec := { _root_.Go.OpenSpec.ofChange s with cond := some uptoSmall }

/-- 'althinglaw6.LedgerLocks', WHERE WHAT IT READS IS OF BULK AT MOST 1048576: true; the input reads as it did. -/
def ledgerLocksUptoRow : OpenClaim := { program := "ytmflbilhdoiihaa", sum := "f5f49c602e49dabc75c8807c95966dc9b2d306f370b2917f0a4d6bc2d562de67", func := "althing/althinglaw6.LedgerLocks", spec := "ledgerLocks", inPlace := ["slices.overlaps[althing/grid.cell[int]]"], unfollowed := true, recurses := true, apart := false, narrowed := true }
def LedgerLocksUptoSaid : Prop := ledgerLocksUptoRow.holds Try.pinned (OpenSpec.upto ledgerLocksSpec)

/-- 'althinglaw6.LedgerNew', WHERE WHAT IT READS IS OF BULK AT MOST 1048576: true; the input reads as it did. -/
def ledgerNewUptoRow : OpenClaim := { program := "ytmflbilhdoiihaa", sum := "f5f49c602e49dabc75c8807c95966dc9b2d306f370b2917f0a4d6bc2d562de67", func := "althing/althinglaw6.LedgerNew", spec := "ledgerNew", inPlace := ["slices.overlaps[althing/grid.cell[int]]"], unfollowed := true, recurses := true, apart := false, narrowed := true }
def LedgerNewUptoSaid : Prop := ledgerNewUptoRow.holds Try.pinned (OpenSpec.upto ledgerNewSpec)

/-- 'althinglaw6.LedgerWay', WHERE WHAT IT READS IS OF BULK AT MOST 1048576: true; the input reads as it did. -/
def ledgerWayUptoRow : OpenClaim := { program := "ytmflbilhdoiihaa", sum := "f5f49c602e49dabc75c8807c95966dc9b2d306f370b2917f0a4d6bc2d562de67", func := "althing/althinglaw6.LedgerWay", spec := "ledgerWay", inPlace := ["slices.overlaps[althing/grid.cell[int]]"], unfollowed := true, recurses := true, apart := false, narrowed := true }
def LedgerWayUptoSaid : Prop := ledgerWayUptoRow.holds Try.pinned (OpenSpec.upto ledgerWaySpec)

/-- 'althinglaw6.LedgerSelf', WHERE WHAT IT READS IS OF BULK AT MOST 1048576: true; the input reads as it did. -/
def ledgerSelfUptoRow : OpenClaim := { program := "ytmflbilhdoiihaa", sum := "f5f49c602e49dabc75c8807c95966dc9b2d306f370b2917f0a4d6bc2d562de67", func := "althing/althinglaw6.LedgerSelf", spec := "ledgerSelf", inPlace := ["slices.overlaps[althing/grid.cell[int]]"], unfollowed := true, recurses := true, apart := false, narrowed := true }
def LedgerSelfUptoSaid : Prop := ledgerSelfUptoRow.holds Try.pinned (OpenSpec.upto ledgerSelfSpec)

/-- 'althinglaw6.LedgerMints', WHERE WHAT IT READS IS OF BULK AT MOST 1048576: true; the input reads as it did. -/
def ledgerMintsUptoRow : OpenClaim := { program := "ytmflbilhdoiihaa", sum := "f5f49c602e49dabc75c8807c95966dc9b2d306f370b2917f0a4d6bc2d562de67", func := "althing/althinglaw6.LedgerMints", spec := "ledgerMints", inPlace := ["slices.overlaps[althing/grid.cell[int]]"], unfollowed := true, recurses := true, apart := false, narrowed := true }
def LedgerMintsUptoSaid : Prop := ledgerMintsUptoRow.holds Try.pinned (OpenSpec.upto ledgerMintsSpec)

/-- 'althinglaw6.LedgerErrs', WHERE WHAT IT READS IS OF BULK AT MOST 1048576: true; the input reads as it did. -/
def ledgerErrsUptoRow : OpenClaim := { program := "ytmflbilhdoiihaa", sum := "f5f49c602e49dabc75c8807c95966dc9b2d306f370b2917f0a4d6bc2d562de67", func := "althing/althinglaw6.LedgerErrs", spec := "ledgerErrs", inPlace := ["slices.overlaps[althing/grid.cell[int]]"], unfollowed := true, recurses := true, apart := false, narrowed := true }
def LedgerErrsUptoSaid : Prop := ledgerErrsUptoRow.holds Try.pinned (OpenSpec.upto ledgerErrsSpec)

/-- 'althinglaw6.LedgerHolds', WHERE WHAT IT READS IS OF BULK AT MOST 1048576: true; the input reads as it did. -/
def ledgerHoldsUptoRow : OpenClaim := { program := "ytmflbilhdoiihaa", sum := "f5f49c602e49dabc75c8807c95966dc9b2d306f370b2917f0a4d6bc2d562de67", func := "althing/althinglaw6.LedgerHolds", spec := "ledgerHolds", inPlace := ["slices.overlaps[althing/grid.cell[int]]"], unfollowed := true, recurses := true, apart := false, narrowed := true }
def LedgerHoldsUptoSaid : Prop := ledgerHoldsUptoRow.holds Try.pinned (OpenSpec.upto ledgerHoldsSpec)

/-- 'althinglaw6.LedgerGuards', WHERE WHAT IT READS IS OF BULK AT MOST 1048576: true; the input reads as it did. -/
def ledgerGuardsUptoRow : OpenClaim := { program := "ytmflbilhdoiihaa", sum := "f5f49c602e49dabc75c8807c95966dc9b2d306f370b2917f0a4d6bc2d562de67", func := "althing/althinglaw6.LedgerGuards", spec := "ledgerGuards", inPlace := ["slices.overlaps[althing/grid.cell[int]]"], unfollowed := true, recurses := true, apart := false, narrowed := true }
def LedgerGuardsUptoSaid : Prop := ledgerGuardsUptoRow.holds Try.pinned (OpenSpec.upto ledgerGuardsSpec)

/-- 'althinglaw6.LedgerPlays', WHERE WHAT IT READS IS OF BULK AT MOST 1048576: true; the input reads as it did. -/
def ledgerPlaysUptoRow : OpenClaim := { program := "ytmflbilhdoiihaa", sum := "f5f49c602e49dabc75c8807c95966dc9b2d306f370b2917f0a4d6bc2d562de67", func := "althing/althinglaw6.LedgerPlays", spec := "ledgerPlays", inPlace := ["slices.overlaps[althing/grid.cell[int]]"], unfollowed := true, recurses := true, apart := false, narrowed := true }
def LedgerPlaysUptoSaid : Prop := ledgerPlaysUptoRow.holds Try.pinned (OpenSpec.upto ledgerPlaysSpec)

/-- 'althinglaw6.LedgerIssues', WHERE WHAT IT READS IS OF BULK AT MOST 1048576: true; the input reads as it did. -/
def ledgerIssuesUptoRow : OpenClaim := { program := "ytmflbilhdoiihaa", sum := "f5f49c602e49dabc75c8807c95966dc9b2d306f370b2917f0a4d6bc2d562de67", func := "althing/althinglaw6.LedgerIssues", spec := "ledgerIssues", inPlace := ["slices.overlaps[althing/grid.cell[int]]"], unfollowed := true, recurses := true, apart := false, narrowed := true }
def LedgerIssuesUptoSaid : Prop := ledgerIssuesUptoRow.holds Try.pinned (OpenSpec.upto ledgerIssuesSpec)

/-- 'althinglaw6.LedgerOfNothing', WHERE WHAT IT READS IS OF BULK AT MOST 1048576: true; the input reads as it did. -/
def ledgerOfNothingUptoRow : OpenClaim := { program := "ytmflbilhdoiihaa", sum := "f5f49c602e49dabc75c8807c95966dc9b2d306f370b2917f0a4d6bc2d562de67", func := "althing/althinglaw6.LedgerOfNothing", spec := "ledgerOfNothing", inPlace := ["slices.overlaps[althing/grid.cell[int]]"], unfollowed := true, recurses := true, apart := false, narrowed := true }
def LedgerOfNothingUptoSaid : Prop := ledgerOfNothingUptoRow.holds Try.pinned (OpenSpec.upto ledgerOfNothingSpec)

end Rows
end Go.Proofs.Ytmflbilhdoiihaa
