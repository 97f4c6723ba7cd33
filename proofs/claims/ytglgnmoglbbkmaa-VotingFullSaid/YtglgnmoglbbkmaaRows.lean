/-
  No cell of these rows narrows 'for every input' (looked for: loops, veiled, ifaces, maps, wideKeys, modest, calm, conditions, laid).
  DERIVED. THE GIVEN ROWS OF THIS SEAT. 4 by the template 'for every input the law returns true; each argument reads behind the call as it read before'; 0 by the template 'total and deterministic' (their statements: YtglgnmoglbbkmaaTotals.lean).
  GIVEN WITH THE SEED: the statements are not yours to turn. If you find one false, say at which input.
  Laid BY PROGRAM, IN A SANDBOX (cutbox-rows.mjs): the forced cells as the released guide's own fill.sh prints them over the translation c49bb5885c3780b8… (all of the seat's roots in one cut). By AI agents, Wed Nov 11 2026. No macro, syntax, notation, axiom, sorry.
-/
import Derived.Test.YtglgnmoglbbkmaaChecked
import GoSem.Claim
import GoSem.ClaimJoined
import GoSem.ClaimMapViews
import Derived.JoinedTies
import Derived.KernelRfl
namespace Go.Proofs.Ytglgnmoglbbkmaa
/- THE CELL 'sum', in the pinned program and in every row, IS THE sha256 OF THE DUMP (.gsa) THAT YtglgnmoglbbkmaaProg.lean LOADS. Nothing in Lean hashes anything: it is a label: what it is worth is what the hold of that sum in a sandbox is worth. -/
noncomputable def Try.pinned : Pinned := { name := "ytglgnmoglbbkmaa", sum := "c49bb5885c3780b888f7a43318ff2d33ab15819835642057ee21b63c42e6dbce", checked := Try.checked }
namespace Rows
def none {H : Type} : Left H := { results := [], args := [] }

/-- 'althinglaw11.VotingFull': WHATEVER THE INPUT: true; the input reads as it did. -/
def votingFullSpec : ChangeSpec := { name := "votingFull", fn := fun _ => fun
  | [d1, d2] => { results := [.lit (.bool true)], args := [d1, d2] }
  | _ => none }
def votingFullRow : OpenClaim := { program := "ytglgnmoglbbkmaa", sum := "c49bb5885c3780b888f7a43318ff2d33ab15819835642057ee21b63c42e6dbce", func := "althing/althinglaw11.VotingFull", spec := "votingFull", inPlace := ["slices.overlaps[althing/grid.cell[*althing/voting.record]]", "slices.overlaps[althing/grid.cell[althing/api.Vote]]", "slices.overlaps[althing/grid.cell[int]]"], unfollowed := true, recurses := true, apart := false }
def VotingFullSaid : Prop := votingFullRow.holds Try.pinned (OpenSpec.ofChange votingFullSpec)

/-- ITS FALSE NEIGHBOUR: 'it returns false'. Refute it at one input. -/
def votingFullWrong : ChangeSpec := { name := "votingFull", fn := fun _ => fun
  | [d1, d2] => { results := [.lit (.bool false)], args := [d1, d2] }
  | _ => none }
def VotingFullWrongFalsely : Prop := votingFullRow.holds Try.pinned (OpenSpec.ofChange votingFullWrong)

/-- 'althinglaw11.VotingSplits': WHATEVER THE INPUT: true; the input reads as it did. -/
def votingSplitsSpec : ChangeSpec := { name := "votingSplits", fn := fun _ => fun
  | [d1, d2, d3, d4, d5] => { results := [.lit (.bool true)], args := [d1, d2, d3, d4, d5] }
  | _ => none }
def votingSplitsRow : OpenClaim := { program := "ytglgnmoglbbkmaa", sum := "c49bb5885c3780b888f7a43318ff2d33ab15819835642057ee21b63c42e6dbce", func := "althing/althinglaw11.VotingSplits", spec := "votingSplits", inPlace := ["slices.overlaps[althing/grid.cell[*althing/voting.record]]", "slices.overlaps[althing/grid.cell[althing/api.Vote]]", "slices.overlaps[althing/grid.cell[int]]"], unfollowed := true, recurses := true, apart := false }
def VotingSplitsSaid : Prop := votingSplitsRow.holds Try.pinned (OpenSpec.ofChange votingSplitsSpec)

/-- ITS FALSE NEIGHBOUR: 'it returns false'. Refute it at one input. -/
def votingSplitsWrong : ChangeSpec := { name := "votingSplits", fn := fun _ => fun
  | [d1, d2, d3, d4, d5] => { results := [.lit (.bool false)], args := [d1, d2, d3, d4, d5] }
  | _ => none }
def VotingSplitsWrongFalsely : Prop := votingSplitsRow.holds Try.pinned (OpenSpec.ofChange votingSplitsWrong)

/-- 'althinglaw11.VotingFunds': WHATEVER THE INPUT: true; the input reads as it did. -/
def votingFundsSpec : ChangeSpec := { name := "votingFunds", fn := fun _ => fun
  | [d1, d2] => { results := [.lit (.bool true)], args := [d1, d2] }
  | _ => none }
def votingFundsRow : OpenClaim := { program := "ytglgnmoglbbkmaa", sum := "c49bb5885c3780b888f7a43318ff2d33ab15819835642057ee21b63c42e6dbce", func := "althing/althinglaw11.VotingFunds", spec := "votingFunds", inPlace := ["slices.overlaps[althing/grid.cell[*althing/voting.record]]", "slices.overlaps[althing/grid.cell[althing/api.Vote]]", "slices.overlaps[althing/grid.cell[int]]"], unfollowed := true, recurses := true, apart := false }
def VotingFundsSaid : Prop := votingFundsRow.holds Try.pinned (OpenSpec.ofChange votingFundsSpec)

/-- ITS FALSE NEIGHBOUR: 'it returns false'. Refute it at one input. -/
def votingFundsWrong : ChangeSpec := { name := "votingFunds", fn := fun _ => fun
  | [d1, d2] => { results := [.lit (.bool false)], args := [d1, d2] }
  | _ => none }
def VotingFundsWrongFalsely : Prop := votingFundsRow.holds Try.pinned (OpenSpec.ofChange votingFundsWrong)

/-- 'althinglaw11.VotingLends': WHATEVER THE INPUT: true; the input reads as it did. -/
def votingLendsSpec : ChangeSpec := { name := "votingLends", fn := fun _ => fun
  | [d1, d2, d3, d4] => { results := [.lit (.bool true)], args := [d1, d2, d3, d4] }
  | _ => none }
def votingLendsRow : OpenClaim := { program := "ytglgnmoglbbkmaa", sum := "c49bb5885c3780b888f7a43318ff2d33ab15819835642057ee21b63c42e6dbce", func := "althing/althinglaw11.VotingLends", spec := "votingLends", inPlace := ["slices.overlaps[althing/grid.cell[*althing/voting.record]]", "slices.overlaps[althing/grid.cell[int]]", "slices.overlaps[althing/grid.cell[althing/api.Vote]]"], unfollowed := true, recurses := true, apart := false }
def VotingLendsSaid : Prop := votingLendsRow.holds Try.pinned (OpenSpec.ofChange votingLendsSpec)

/-- ITS FALSE NEIGHBOUR: 'it returns false'. Refute it at one input. -/
def votingLendsWrong : ChangeSpec := { name := "votingLends", fn := fun _ => fun
  | [d1, d2, d3, d4] => { results := [.lit (.bool false)], args := [d1, d2, d3, d4] }
  | _ => none }
def VotingLendsWrongFalsely : Prop := votingLendsRow.holds Try.pinned (OpenSpec.ofChange votingLendsWrong)

/- THE SECOND FORM. 'bulk': how many values and letters a reading holds, each counted each time it is reached (what is shared counts as often as it is met; a slice's spare places count too). A statement '..UptoSaid' is the law's where the arguments, and the package variables that the reading takes, are together of bulk at most 1048576: NARROWER than '..Said'. Prove '..Said' where nothing that the law and all that it calls make is longer than what came in: it says more and counts as full. Else prove '..UptoSaid'. A law counts once. -/
mutual
def uptoBulk {H : Type} : DataW H → Nat
  | .lit (.string bytes) => bytes.length + 1
  | .lit _ => 1
  | .nil => 1
  | .ptr d => uptoBulk d + 1
  | .slice elems spare => uptoBulkAll elems + uptoBulkAll spare + 1
  | .agg parts => uptoBulkAll parts + 1
  | .iface _ d => uptoBulk d + 1
  | .map entries => uptoBulkEntries entries + 1
  | .held _ => 1
def uptoBulkAll {H : Type} : List (DataW H) → Nat
  | [] => 0
  | d :: r => uptoBulk d + uptoBulkAll r
def uptoBulkEntries {H : Type} : List (Lit × DataW H) → Nat
  | [] => 0
  | x :: r => uptoBulkEntry x + uptoBulkEntries r
def uptoBulkEntry {H : Type} : Lit × DataW H → Nat
  | (.string bytes, d) => bytes.length + uptoBulk d + 1
  | (_, d) => uptoBulk d + 1
 end
def uptoSmall : (H : Type) → List (DataW H) → Bool := fun _ ds => decide (uptoBulkAll ds ≤ 1048576)
def OpenSpec.upto (s : _root_.Go.ChangeSpec) : _root_.Go.OpenSpec := { _root_.Go.OpenSpec.ofChange s with cond := some uptoSmall }

/-- 'althinglaw11.VotingFull', WHERE WHAT IT READS IS OF BULK AT MOST 1048576: true; the input reads as it did. -/
def votingFullUptoRow : OpenClaim := { program := "ytglgnmoglbbkmaa", sum := "c49bb5885c3780b888f7a43318ff2d33ab15819835642057ee21b63c42e6dbce", func := "althing/althinglaw11.VotingFull", spec := "votingFull", inPlace := ["slices.overlaps[althing/grid.cell[*althing/voting.record]]", "slices.overlaps[althing/grid.cell[althing/api.Vote]]", "slices.overlaps[althing/grid.cell[int]]"], unfollowed := true, recurses := true, apart := false, narrowed := true }
def VotingFullUptoSaid : Prop := votingFullUptoRow.holds Try.pinned (OpenSpec.upto votingFullSpec)

/-- 'althinglaw11.VotingSplits', WHERE WHAT IT READS IS OF BULK AT MOST 1048576: true; the input reads as it did. -/
def votingSplitsUptoRow : OpenClaim := { program := "ytglgnmoglbbkmaa", sum := "c49bb5885c3780b888f7a43318ff2d33ab15819835642057ee21b63c42e6dbce", func := "althing/althinglaw11.VotingSplits", spec := "votingSplits", inPlace := ["slices.overlaps[althing/grid.cell[*althing/voting.record]]", "slices.overlaps[althing/grid.cell[althing/api.Vote]]", "slices.overlaps[althing/grid.cell[int]]"], unfollowed := true, recurses := true, apart := false, narrowed := true }
def VotingSplitsUptoSaid : Prop := votingSplitsUptoRow.holds Try.pinned (OpenSpec.upto votingSplitsSpec)

/-- 'althinglaw11.VotingFunds', WHERE WHAT IT READS IS OF BULK AT MOST 1048576: true; the input reads as it did. -/
def votingFundsUptoRow : OpenClaim := { program := "ytglgnmoglbbkmaa", sum := "c49bb5885c3780b888f7a43318ff2d33ab15819835642057ee21b63c42e6dbce", func := "althing/althinglaw11.VotingFunds", spec := "votingFunds", inPlace := ["slices.overlaps[althing/grid.cell[*althing/voting.record]]", "slices.overlaps[althing/grid.cell[althing/api.Vote]]", "slices.overlaps[althing/grid.cell[int]]"], unfollowed := true, recurses := true, apart := false, narrowed := true }
def VotingFundsUptoSaid : Prop := votingFundsUptoRow.holds Try.pinned (OpenSpec.upto votingFundsSpec)

/-- 'althinglaw11.VotingLends', WHERE WHAT IT READS IS OF BULK AT MOST 1048576: true; the input reads as it did. -/
def votingLendsUptoRow : OpenClaim := { program := "ytglgnmoglbbkmaa", sum := "c49bb5885c3780b888f7a43318ff2d33ab15819835642057ee21b63c42e6dbce", func := "althing/althinglaw11.VotingLends", spec := "votingLends", inPlace := ["slices.overlaps[althing/grid.cell[*althing/voting.record]]", "slices.overlaps[althing/grid.cell[int]]", "slices.overlaps[althing/grid.cell[althing/api.Vote]]"], unfollowed := true, recurses := true, apart := false, narrowed := true }
def VotingLendsUptoSaid : Prop := votingLendsUptoRow.holds Try.pinned (OpenSpec.upto votingLendsSpec)

end Rows
end Go.Proofs.Ytglgnmoglbbkmaa
