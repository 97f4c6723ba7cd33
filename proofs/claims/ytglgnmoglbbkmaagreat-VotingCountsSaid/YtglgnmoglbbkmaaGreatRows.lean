/-
  No cell of these rows narrows 'for every input' (looked for: loops, veiled, ifaces, maps, wideKeys, modest, calm, conditions, laid).
  DERIVED. THE GIVEN ROWS OF THIS SEAT. 10 by the template 'for every input the law returns true; each argument reads behind the call as it read before'; 0 by the template 'total and deterministic' (their statements: YtglgnmoglbbkmaaGreatTotals.lean).
  GIVEN WITH THE SEED: the statements are not yours to turn. If you find one false, say at which input.
  Laid BY PROGRAM, IN A SANDBOX (cutbox-rows.mjs): the forced cells as the released guide's own fill.sh prints them over the translation a65501ee0a111fa4… (all of the seat's roots in one cut). By AI agents, Wed Nov 11 2026. No macro, syntax, notation, axiom, sorry.
-/
import Derived.Test.YtglgnmoglbbkmaaGreatChecked
import GoSem.Claim
import GoSem.ClaimJoined
import GoSem.ClaimMapViews
import Derived.JoinedTies
import Derived.KernelRfl
namespace Go.Proofs.YtglgnmoglbbkmaaGreat
/- THE CELL 'sum', in the pinned program and in every row, IS THE sha256 OF THE DUMP (.gsa) THAT YtglgnmoglbbkmaaGreatProg.lean LOADS. Nothing in Lean hashes anything: it is a label: what it is worth is what the hold of that sum in a sandbox is worth. -/
noncomputable def Tryz.pinned : Pinned := { name := "ytglgnmoglbbkmaagreat", sum := "a65501ee0a111fa4d8777f98b3f64bf73a6545b2b4321f8cffedbd381c76bae1", checked := Tryz.checked }
namespace Rows
def none {H : Type} : Left H := { results := [], args := [] }

/-- 'althinglaw11.VotingTwice': WHATEVER THE INPUT: true; the input reads as it did. -/
def votingTwiceSpec : ChangeSpec := { name := "votingTwice", fn := fun _ => fun
  | [d1, d2, d3] => { results := [.lit (.bool true)], args := [d1, d2, d3] }
  | _ => none }
def votingTwiceRow : OpenClaim := { program := "ytglgnmoglbbkmaagreat", sum := "a65501ee0a111fa4d8777f98b3f64bf73a6545b2b4321f8cffedbd381c76bae1", func := "althing/althinglaw11.VotingTwice", spec := "votingTwice", inPlace := ["slices.overlaps[althing/grid.cell[*althing/voting.record]]", "slices.overlaps[althing/grid.cell[int]]", "slices.overlaps[althing/grid.cell[althing/api.Vote]]"], unfollowed := true, recurses := true, apart := false }
def VotingTwiceSaid : Prop := votingTwiceRow.holds Tryz.pinned (OpenSpec.ofChange votingTwiceSpec)

/-- ITS FALSE NEIGHBOUR: 'it returns false'. Refute it at one input. -/
def votingTwiceWrong : ChangeSpec := { name := "votingTwice", fn := fun _ => fun
  | [d1, d2, d3] => { results := [.lit (.bool false)], args := [d1, d2, d3] }
  | _ => none }
def VotingTwiceWrongFalsely : Prop := votingTwiceRow.holds Tryz.pinned (OpenSpec.ofChange votingTwiceWrong)

/-- 'althinglaw11.VotingChain': WHATEVER THE INPUT: true; the input reads as it did. -/
def votingChainSpec : ChangeSpec := { name := "votingChain", fn := fun _ => fun
  | [d1, d2, d3] => { results := [.lit (.bool true)], args := [d1, d2, d3] }
  | _ => none }
def votingChainRow : OpenClaim := { program := "ytglgnmoglbbkmaagreat", sum := "a65501ee0a111fa4d8777f98b3f64bf73a6545b2b4321f8cffedbd381c76bae1", func := "althing/althinglaw11.VotingChain", spec := "votingChain", inPlace := ["slices.overlaps[althing/grid.cell[*althing/voting.record]]", "slices.overlaps[althing/grid.cell[althing/api.Vote]]", "slices.overlaps[althing/grid.cell[int]]"], unfollowed := true, recurses := true, apart := false }
def VotingChainSaid : Prop := votingChainRow.holds Tryz.pinned (OpenSpec.ofChange votingChainSpec)

/-- ITS FALSE NEIGHBOUR: 'it returns false'. Refute it at one input. -/
def votingChainWrong : ChangeSpec := { name := "votingChain", fn := fun _ => fun
  | [d1, d2, d3] => { results := [.lit (.bool false)], args := [d1, d2, d3] }
  | _ => none }
def VotingChainWrongFalsely : Prop := votingChainRow.holds Tryz.pinned (OpenSpec.ofChange votingChainWrong)

/-- 'althinglaw11.VotingBack': WHATEVER THE INPUT: true; the input reads as it did. -/
def votingBackSpec : ChangeSpec := { name := "votingBack", fn := fun _ => fun
  | [d1, d2, d3, d4] => { results := [.lit (.bool true)], args := [d1, d2, d3, d4] }
  | _ => none }
def votingBackRow : OpenClaim := { program := "ytglgnmoglbbkmaagreat", sum := "a65501ee0a111fa4d8777f98b3f64bf73a6545b2b4321f8cffedbd381c76bae1", func := "althing/althinglaw11.VotingBack", spec := "votingBack", inPlace := ["slices.overlaps[althing/grid.cell[*althing/voting.record]]", "slices.overlaps[althing/grid.cell[althing/api.Vote]]", "slices.overlaps[althing/grid.cell[int]]"], unfollowed := true, recurses := true, apart := false }
def VotingBackSaid : Prop := votingBackRow.holds Tryz.pinned (OpenSpec.ofChange votingBackSpec)

/-- ITS FALSE NEIGHBOUR: 'it returns false'. Refute it at one input. -/
def votingBackWrong : ChangeSpec := { name := "votingBack", fn := fun _ => fun
  | [d1, d2, d3, d4] => { results := [.lit (.bool false)], args := [d1, d2, d3, d4] }
  | _ => none }
def VotingBackWrongFalsely : Prop := votingBackRow.holds Tryz.pinned (OpenSpec.ofChange votingBackWrong)

/-- 'althinglaw11.VotingTracks': WHATEVER THE INPUT: true; the input reads as it did. -/
def votingTracksSpec : ChangeSpec := { name := "votingTracks", fn := fun _ => fun
  | [d1, d2, d3] => { results := [.lit (.bool true)], args := [d1, d2, d3] }
  | _ => none }
def votingTracksRow : OpenClaim := { program := "ytglgnmoglbbkmaagreat", sum := "a65501ee0a111fa4d8777f98b3f64bf73a6545b2b4321f8cffedbd381c76bae1", func := "althing/althinglaw11.VotingTracks", spec := "votingTracks", inPlace := ["slices.overlaps[althing/grid.cell[*althing/voting.record]]", "slices.overlaps[althing/grid.cell[althing/api.Vote]]", "slices.overlaps[althing/grid.cell[int]]"], unfollowed := true, recurses := true, apart := false }
def VotingTracksSaid : Prop := votingTracksRow.holds Tryz.pinned (OpenSpec.ofChange votingTracksSpec)

/-- ITS FALSE NEIGHBOUR: 'it returns false'. Refute it at one input. -/
def votingTracksWrong : ChangeSpec := { name := "votingTracks", fn := fun _ => fun
  | [d1, d2, d3] => { results := [.lit (.bool false)], args := [d1, d2, d3] }
  | _ => none }
def VotingTracksWrongFalsely : Prop := votingTracksRow.holds Tryz.pinned (OpenSpec.ofChange votingTracksWrong)

/-- 'althinglaw11.VotingOfNothing': WHATEVER THE INPUT: true; the input reads as it did. -/
def votingOfNothingSpec : ChangeSpec := { name := "votingOfNothing", fn := fun _ => fun
  | [d] => { results := [.lit (.bool true)], args := [d] }
  | _ => none }
def votingOfNothingRow : OpenClaim := { program := "ytglgnmoglbbkmaagreat", sum := "a65501ee0a111fa4d8777f98b3f64bf73a6545b2b4321f8cffedbd381c76bae1", func := "althing/althinglaw11.VotingOfNothing", spec := "votingOfNothing", inPlace := ["slices.overlaps[althing/grid.cell[*althing/voting.record]]", "slices.overlaps[althing/grid.cell[althing/api.Vote]]", "slices.overlaps[althing/grid.cell[int]]"], unfollowed := true, recurses := true, apart := false }
def VotingOfNothingSaid : Prop := votingOfNothingRow.holds Tryz.pinned (OpenSpec.ofChange votingOfNothingSpec)

/-- ITS FALSE NEIGHBOUR: 'it returns false'. Refute it at one input. -/
def votingOfNothingWrong : ChangeSpec := { name := "votingOfNothing", fn := fun _ => fun
  | [d] => { results := [.lit (.bool false)], args := [d] }
  | _ => none }
def VotingOfNothingWrongFalsely : Prop := votingOfNothingRow.holds Tryz.pinned (OpenSpec.ofChange votingOfNothingWrong)

/-- 'althinglaw11.VotingPriors': WHATEVER THE INPUT: true; the input reads as it did. -/
def votingPriorsSpec : ChangeSpec := { name := "votingPriors", fn := fun _ => fun
  | [d1, d2, d3, d4, d5] => { results := [.lit (.bool true)], args := [d1, d2, d3, d4, d5] }
  | _ => none }
def votingPriorsRow : OpenClaim := { program := "ytglgnmoglbbkmaagreat", sum := "a65501ee0a111fa4d8777f98b3f64bf73a6545b2b4321f8cffedbd381c76bae1", func := "althing/althinglaw11.VotingPriors", spec := "votingPriors", inPlace := ["slices.overlaps[althing/grid.cell[*althing/voting.record]]", "slices.overlaps[althing/grid.cell[althing/api.Vote]]", "slices.overlaps[althing/grid.cell[int]]"], unfollowed := true, recurses := true, apart := false }
def VotingPriorsSaid : Prop := votingPriorsRow.holds Tryz.pinned (OpenSpec.ofChange votingPriorsSpec)

/-- ITS FALSE NEIGHBOUR: 'it returns false'. Refute it at one input. -/
def votingPriorsWrong : ChangeSpec := { name := "votingPriors", fn := fun _ => fun
  | [d1, d2, d3, d4, d5] => { results := [.lit (.bool false)], args := [d1, d2, d3, d4, d5] }
  | _ => none }
def VotingPriorsWrongFalsely : Prop := votingPriorsRow.holds Tryz.pinned (OpenSpec.ofChange votingPriorsWrong)

/-- 'althinglaw11.VotingCounts': WHATEVER THE INPUT: true; the input reads as it did. -/
def votingCountsSpec : ChangeSpec := { name := "votingCounts", fn := fun _ => fun
  | [d1, d2] => { results := [.lit (.bool true)], args := [d1, d2] }
  | _ => none }
def votingCountsRow : OpenClaim := { program := "ytglgnmoglbbkmaagreat", sum := "a65501ee0a111fa4d8777f98b3f64bf73a6545b2b4321f8cffedbd381c76bae1", func := "althing/althinglaw11.VotingCounts", spec := "votingCounts", inPlace := ["slices.overlaps[althing/grid.cell[*althing/voting.record]]", "slices.overlaps[althing/grid.cell[althing/api.Vote]]", "slices.overlaps[althing/grid.cell[int]]"], unfollowed := true, recurses := true, apart := false }
def VotingCountsSaid : Prop := votingCountsRow.holds Tryz.pinned (OpenSpec.ofChange votingCountsSpec)

/-- ITS FALSE NEIGHBOUR: 'it returns false'. Refute it at one input. -/
def votingCountsWrong : ChangeSpec := { name := "votingCounts", fn := fun _ => fun
  | [d1, d2] => { results := [.lit (.bool false)], args := [d1, d2] }
  | _ => none }
def VotingCountsWrongFalsely : Prop := votingCountsRow.holds Tryz.pinned (OpenSpec.ofChange votingCountsWrong)

/-- 'althinglaw11.VotingHolds': WHATEVER THE INPUT: true; the input reads as it did. -/
def votingHoldsSpec : ChangeSpec := { name := "votingHolds", fn := fun _ => fun
  | [d1, d2] => { results := [.lit (.bool true)], args := [d1, d2] }
  | _ => none }
def votingHoldsRow : OpenClaim := { program := "ytglgnmoglbbkmaagreat", sum := "a65501ee0a111fa4d8777f98b3f64bf73a6545b2b4321f8cffedbd381c76bae1", func := "althing/althinglaw11.VotingHolds", spec := "votingHolds", inPlace := ["slices.overlaps[althing/grid.cell[*althing/voting.record]]", "slices.overlaps[althing/grid.cell[althing/api.Vote]]", "slices.overlaps[althing/grid.cell[int]]"], unfollowed := true, recurses := true, apart := false }
def VotingHoldsSaid : Prop := votingHoldsRow.holds Tryz.pinned (OpenSpec.ofChange votingHoldsSpec)

/-- ITS FALSE NEIGHBOUR: 'it returns false'. Refute it at one input. -/
def votingHoldsWrong : ChangeSpec := { name := "votingHolds", fn := fun _ => fun
  | [d1, d2] => { results := [.lit (.bool false)], args := [d1, d2] }
  | _ => none }
def VotingHoldsWrongFalsely : Prop := votingHoldsRow.holds Tryz.pinned (OpenSpec.ofChange votingHoldsWrong)

/-- 'althinglaw11.VotingPlays': WHATEVER THE INPUT: true; the input reads as it did. -/
def votingPlaysSpec : ChangeSpec := { name := "votingPlays", fn := fun _ => fun
  | [d1, d2] => { results := [.lit (.bool true)], args := [d1, d2] }
  | _ => none }
def votingPlaysRow : OpenClaim := { program := "ytglgnmoglbbkmaagreat", sum := "a65501ee0a111fa4d8777f98b3f64bf73a6545b2b4321f8cffedbd381c76bae1", func := "althing/althinglaw11.VotingPlays", spec := "votingPlays", inPlace := ["slices.overlaps[althing/grid.cell[*althing/voting.record]]", "slices.overlaps[althing/grid.cell[althing/api.Vote]]", "slices.overlaps[althing/grid.cell[int]]"], unfollowed := true, recurses := true, apart := false }
def VotingPlaysSaid : Prop := votingPlaysRow.holds Tryz.pinned (OpenSpec.ofChange votingPlaysSpec)

/-- ITS FALSE NEIGHBOUR: 'it returns false'. Refute it at one input. -/
def votingPlaysWrong : ChangeSpec := { name := "votingPlays", fn := fun _ => fun
  | [d1, d2] => { results := [.lit (.bool false)], args := [d1, d2] }
  | _ => none }
def VotingPlaysWrongFalsely : Prop := votingPlaysRow.holds Tryz.pinned (OpenSpec.ofChange votingPlaysWrong)

/-- 'althinglaw11.VotingErrs': WHATEVER THE INPUT: true; the input reads as it did. -/
def votingErrsSpec : ChangeSpec := { name := "votingErrs", fn := fun _ => fun
  | [d1, d2, d3] => { results := [.lit (.bool true)], args := [d1, d2, d3] }
  | _ => none }
def votingErrsRow : OpenClaim := { program := "ytglgnmoglbbkmaagreat", sum := "a65501ee0a111fa4d8777f98b3f64bf73a6545b2b4321f8cffedbd381c76bae1", func := "althing/althinglaw11.VotingErrs", spec := "votingErrs", inPlace := ["slices.overlaps[althing/grid.cell[*althing/voting.record]]", "slices.overlaps[althing/grid.cell[althing/api.Vote]]", "slices.overlaps[althing/grid.cell[int]]"], unfollowed := true, recurses := true, apart := false }
def VotingErrsSaid : Prop := votingErrsRow.holds Tryz.pinned (OpenSpec.ofChange votingErrsSpec)

/-- ITS FALSE NEIGHBOUR: 'it returns false'. Refute it at one input. -/
def votingErrsWrong : ChangeSpec := { name := "votingErrs", fn := fun _ => fun
  | [d1, d2, d3] => { results := [.lit (.bool false)], args := [d1, d2, d3] }
  | _ => none }
def VotingErrsWrongFalsely : Prop := votingErrsRow.holds Tryz.pinned (OpenSpec.ofChange votingErrsWrong)

/- THE SECOND FORM. 'bulk': how many values and letters a reading holds, each counted each time it is reached (what is shared counts as often as it is met; a slice's spare places count too). A statement '..UptoSaid' is the law's where the arguments, and the package variables that the reading takes, are together of bulk at most 1048576: NARROWER than '..Said'. Prove '..Said' where nothing that the law and all that it calls make is longer than what came in: it says more and counts as full. Else prove '..UptoSaid'. A law counts once. -/
mutual
def uptoBulk {H : Type} : DataW H → Nat
  | .lit (.string bytes) => bytes.length + 1
  | .lit _ => 1
  | .nil => 1
  | .ptr d => uptoBulk d + 1
  | .slice elems spare => uptoBulkAll elems + uptoBulkAll spare + 1
  | .agg parts => uptoBulkAll parts + 1
  | .iface _ d => uptoBulk d + 1
  | .map entries => uptoBulkEntries entries + 1
  | .held _ => 1
def uptoBulkAll {H : Type} : List (DataW H) → Nat
  | [] => 0
  | d :: r => uptoBulk d + uptoBulkAll r
def uptoBulkEntries {H : Type} : List (Lit × DataW H) → Nat
  | [] => 0
  | x :: r => uptoBulkEntry x + uptoBulkEntries r
def uptoBulkEntry {H : Type} : Lit × DataW H → Nat
  | (.string bytes, d) => bytes.length + uptoBulk d + 1
  | (_, d) => uptoBulk d + 1
 end
def uptoSmall : (H : Type) → List (DataW H) → Bool := fun _ ds => decide (uptoBulkAll ds ≤ 1048576)
def OpenSpec.upto (s : _root_.Go.ChangeSpec) : _root_.Go.OpenSpec := { _root_.Go.OpenSpec.ofChange s with cond := some uptoSmall }

/-- 'althinglaw11.VotingTwice', WHERE WHAT IT READS IS OF BULK AT MOST 1048576: true; the input reads as it did. -/
def votingTwiceUptoRow : OpenClaim := { program := "ytglgnmoglbbkmaagreat", sum := "a65501ee0a111fa4d8777f98b3f64bf73a6545b2b4321f8cffedbd381c76bae1", func := "althing/althinglaw11.VotingTwice", spec := "votingTwice", inPlace := ["slices.overlaps[althing/grid.cell[*althing/voting.record]]", "slices.overlaps[althing/grid.cell[int]]", "slices.overlaps[althing/grid.cell[althing/api.Vote]]"], unfollowed := true, recurses := true, apart := false, narrowed := true }
def VotingTwiceUptoSaid : Prop := votingTwiceUptoRow.holds Tryz.pinned (OpenSpec.upto votingTwiceSpec)

/-- 'althinglaw11.VotingChain', WHERE WHAT IT READS IS OF BULK AT MOST 1048576: true; the input reads as it did. -/
def votingChainUptoRow : OpenClaim := { program := "ytglgnmoglbbkmaagreat", sum := "a65501ee0a111fa4d8777f98b3f64bf73a6545b2b4321f8cffedbd381c76bae1", func := "althing/althinglaw11.VotingChain", spec := "votingChain", inPlace := ["slices.overlaps[althing/grid.cell[*althing/voting.record]]", "slices.overlaps[althing/grid.cell[althing/api.Vote]]", "slices.overlaps[althing/grid.cell[int]]"], unfollowed := true, recurses := true, apart := false, narrowed := true }
def VotingChainUptoSaid : Prop := votingChainUptoRow.holds Tryz.pinned (OpenSpec.upto votingChainSpec)

/-- 'althinglaw11.VotingBack', WHERE WHAT IT READS IS OF BULK AT MOST 1048576: true; the input reads as it did. -/
def votingBackUptoRow : OpenClaim := { program := "ytglgnmoglbbkmaagreat", sum := "a65501ee0a111fa4d8777f98b3f64bf73a6545b2b4321f8cffedbd381c76bae1", func := "althing/althinglaw11.VotingBack", spec := "votingBack", inPlace := ["slices.overlaps[althing/grid.cell[*althing/voting.record]]", "slices.overlaps[althing/grid.cell[althing/api.Vote]]", "slices.overlaps[althing/grid.cell[int]]"], unfollowed := true, recurses := true, apart := false, narrowed := true }
def VotingBackUptoSaid : Prop := votingBackUptoRow.holds Tryz.pinned (OpenSpec.upto votingBackSpec)

/-- 'althinglaw11.VotingTracks', WHERE WHAT IT READS IS OF BULK AT MOST 1048576: true; the input reads as it did. -/
def votingTracksUptoRow : OpenClaim := { program := "ytglgnmoglbbkmaagreat", sum := "a65501ee0a111fa4d8777f98b3f64bf73a6545b2b4321f8cffedbd381c76bae1", func := "althing/althinglaw11.VotingTracks", spec := "votingTracks", inPlace := ["slices.overlaps[althing/grid.cell[*althing/voting.record]]", "slices.overlaps[althing/grid.cell[althing/api.Vote]]", "slices.overlaps[althing/grid.cell[int]]"], unfollowed := true, recurses := true, apart := false, narrowed := true }
def VotingTracksUptoSaid : Prop := votingTracksUptoRow.holds Tryz.pinned (OpenSpec.upto votingTracksSpec)

/-- 'althinglaw11.VotingOfNothing', WHERE WHAT IT READS IS OF BULK AT MOST 1048576: true; the input reads as it did. -/
def votingOfNothingUptoRow : OpenClaim := { program := "ytglgnmoglbbkmaagreat", sum := "a65501ee0a111fa4d8777f98b3f64bf73a6545b2b4321f8cffedbd381c76bae1", func := "althing/althinglaw11.VotingOfNothing", spec := "votingOfNothing", inPlace := ["slices.overlaps[althing/grid.cell[*althing/voting.record]]", "slices.overlaps[althing/grid.cell[althing/api.Vote]]", "slices.overlaps[althing/grid.cell[int]]"], unfollowed := true, recurses := true, apart := false, narrowed := true }
def VotingOfNothingUptoSaid : Prop := votingOfNothingUptoRow.holds Tryz.pinned (OpenSpec.upto votingOfNothingSpec)

/-- 'althinglaw11.VotingPriors', WHERE WHAT IT READS IS OF BULK AT MOST 1048576: true; the input reads as it did. -/
def votingPriorsUptoRow : OpenClaim := { program := "ytglgnmoglbbkmaagreat", sum := "a65501ee0a111fa4d8777f98b3f64bf73a6545b2b4321f8cffedbd381c76bae1", func := "althing/althinglaw11.VotingPriors", spec := "votingPriors", inPlace := ["slices.overlaps[althing/grid.cell[*althing/voting.record]]", "slices.overlaps[althing/grid.cell[althing/api.Vote]]", "slices.overlaps[althing/grid.cell[int]]"], unfollowed := true, recurses := true, apart := false, narrowed := true }
def VotingPriorsUptoSaid : Prop := votingPriorsUptoRow.holds Tryz.pinned (OpenSpec.upto votingPriorsSpec)

/-- 'althinglaw11.VotingCounts', WHERE WHAT IT READS IS OF BULK AT MOST 1048576: true; the input reads as it did. -/
def votingCountsUptoRow : OpenClaim := { program := "ytglgnmoglbbkmaagreat", sum := "a65501ee0a111fa4d8777f98b3f64bf73a6545b2b4321f8cffedbd381c76bae1", func := "althing/althinglaw11.VotingCounts", spec := "votingCounts", inPlace := ["slices.overlaps[althing/grid.cell[*althing/voting.record]]", "slices.overlaps[althing/grid.cell[althing/api.Vote]]", "slices.overlaps[althing/grid.cell[int]]"], unfollowed := true, recurses := true, apart := false, narrowed := true }
def VotingCountsUptoSaid : Prop := votingCountsUptoRow.holds Tryz.pinned (OpenSpec.upto votingCountsSpec)

/-- 'althinglaw11.VotingHolds', WHERE WHAT IT READS IS OF BULK AT MOST 1048576: true; the input reads as it did. -/
def votingHoldsUptoRow : OpenClaim := { program := "ytglgnmoglbbkmaagreat", sum := "a65501ee0a111fa4d8777f98b3f64bf73a6545b2b4321f8cffedbd381c76bae1", func := "althing/althinglaw11.VotingHolds", spec := "votingHolds", inPlace := ["slices.overlaps[althing/grid.cell[*althing/voting.record]]", "slices.overlaps[althing/grid.cell[althing/api.Vote]]", "slices.overlaps[althing/grid.cell[int]]"], unfollowed := true, recurses := true, apart := false, narrowed := true }
def VotingHoldsUptoSaid : Prop := votingHoldsUptoRow.holds Tryz.pinned (OpenSpec.upto votingHoldsSpec)

/-- 'althinglaw11.VotingPlays', WHERE WHAT IT READS IS OF BULK AT MOST 1048576: true; the input reads as it did. -/
def votingPlaysUptoRow : OpenClaim := { program := "ytglgnmoglbbkmaagreat", sum := "a65501ee0a111fa4d8777f98b3f64bf73a6545b2b4321f8cffedbd381c76bae1", func := "althing/althinglaw11.VotingPlays", spec := "votingPlays", inPlace := ["slices.overlaps[althing/grid.cell[*althing/voting.record]]", "slices.overlaps[althing/grid.cell[althing/api.Vote]]", "slices.overlaps[althing/grid.cell[int]]"], unfollowed := true, recurses := true, apart := false, narrowed := true }
def VotingPlaysUptoSaid : Prop := votingPlaysUptoRow.holds Tryz.pinned (OpenSpec.upto votingPlaysSpec)

/-- 'althinglaw11.VotingErrs', WHERE WHAT IT READS IS OF BULK AT MOST 1048576: true; the input reads as it did. -/
def votingErrsUptoRow : OpenClaim := { program := "ytglgnmoglbbkmaagreat", sum := "a65501ee0a111fa4d8777f98b3f64bf73a6545b2b4321f8cffedbd381c76bae1", func := "althing/althinglaw11.VotingErrs", spec := "votingErrs", inPlace := ["slices.overlaps[althing/grid.cell[*althing/voting.record]]", "slices.overlaps[althing/grid.cell[althing/api.Vote]]", "slices.overlaps[althing/grid.cell[int]]"], unfollowed := true, recurses := true, apart := false, narrowed := true }
def VotingErrsUptoSaid : Prop := votingErrsUptoRow.holds Tryz.pinned (OpenSpec.upto votingErrsSpec)

end Rows
end Go.Proofs.YtglgnmoglbbkmaaGreat
