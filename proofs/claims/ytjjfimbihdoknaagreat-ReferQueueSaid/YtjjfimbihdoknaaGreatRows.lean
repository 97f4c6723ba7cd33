/-
  No cell of these rows narrows 'for every input' (looked for: loops, veiled, ifaces, maps, wideKeys, modest, calm, conditions, laid).
  DERIVED. THE GIVEN ROWS OF THIS SEAT. 12 by the template 'for every input the law returns true; each argument reads behind the call as it read before'; 0 by the template 'total and deterministic' (their statements: YtjjfimbihdoknaaGreatTotals.lean).
  GIVEN WITH THE SEED: the statements are not yours to turn. If you find one false, say at which input.
  Laid BY PROGRAM, IN A SANDBOX (cutbox-rows.mjs): the forced cells as the released guide's own fill.sh prints them over the translation f0a98e5d9d84171f… (all of the seat's roots in one cut). By AI agents, Wed Nov 11 2026. No macro, syntax, notation, axiom, sorry.
-/
import Derived.Test.YtjjfimbihdoknaaGreatChecked
import GoSem.Claim
import GoSem.ClaimJoined
import GoSem.ClaimMapViews
import Derived.JoinedTies
import Derived.KernelRfl
namespace Go.Proofs.YtjjfimbihdoknaaGreat
/- THE CELL 'sum', in the pinned program and in every row, IS THE sha256 OF THE DUMP (.gsa) THAT YtjjfimbihdoknaaGreatProg.lean LOADS. Nothing in Lean hashes anything: it is a label: what it is worth is what the hold of that sum in a sandbox is worth. -/
noncomputable def Tryz.pinned : Pinned := { name := "ytjjfimbihdoknaagreat", sum := "f0a98e5d9d84171f70a5a9539526ffa65c0efbe5c560fd230d30d0c42938c089", checked := Tryz.checked }
namespace Rows
def none {H : Type} : Left H := { results := [], args := [] }

/-- 'althinglaw12.ReferFull': WHATEVER THE INPUT: true; the input reads as it did. -/
def referFullSpec : ChangeSpec := { name := "referFull", fn := fun _ => fun
  | [d] => { results := [.lit (.bool true)], args := [d] }
  | _ => none }
def referFullRow : OpenClaim := { program := "ytjjfimbihdoknaagreat", sum := "f0a98e5d9d84171f70a5a9539526ffa65c0efbe5c560fd230d30d0c42938c089", func := "althing/althinglaw12.ReferFull", spec := "referFull", inPlace := ["slices.overlaps[althing/grid.cell[althing/api.Referendum]]"], unfollowed := true, recurses := true, apart := false }
def ReferFullSaid : Prop := referFullRow.holds Tryz.pinned (OpenSpec.ofChange referFullSpec)

/-- ITS FALSE NEIGHBOUR: 'it returns false'. Refute it at one input. -/
def referFullWrong : ChangeSpec := { name := "referFull", fn := fun _ => fun
  | [d] => { results := [.lit (.bool false)], args := [d] }
  | _ => none }
def ReferFullWrongFalsely : Prop := referFullRow.holds Tryz.pinned (OpenSpec.ofChange referFullWrong)

/-- 'althinglaw12.ReferTimes': WHATEVER THE INPUT: true; the input reads as it did. -/
def referTimesSpec : ChangeSpec := { name := "referTimes", fn := fun _ => fun
  | [d1, d2] => { results := [.lit (.bool true)], args := [d1, d2] }
  | _ => none }
def referTimesRow : OpenClaim := { program := "ytjjfimbihdoknaagreat", sum := "f0a98e5d9d84171f70a5a9539526ffa65c0efbe5c560fd230d30d0c42938c089", func := "althing/althinglaw12.ReferTimes", spec := "referTimes", inPlace := ["slices.overlaps[althing/grid.cell[althing/api.Referendum]]"], unfollowed := true, recurses := true, apart := false }
def ReferTimesSaid : Prop := referTimesRow.holds Tryz.pinned (OpenSpec.ofChange referTimesSpec)

/-- ITS FALSE NEIGHBOUR: 'it returns false'. Refute it at one input. -/
def referTimesWrong : ChangeSpec := { name := "referTimes", fn := fun _ => fun
  | [d1, d2] => { results := [.lit (.bool false)], args := [d1, d2] }
  | _ => none }
def ReferTimesWrongFalsely : Prop := referTimesRow.holds Tryz.pinned (OpenSpec.ofChange referTimesWrong)

/-- 'althinglaw12.ReferTracks': WHATEVER THE INPUT: true; the input reads as it did. -/
def referTracksSpec : ChangeSpec := { name := "referTracks", fn := fun _ => fun
  | [d1, d2, d3] => { results := [.lit (.bool true)], args := [d1, d2, d3] }
  | _ => none }
def referTracksRow : OpenClaim := { program := "ytjjfimbihdoknaagreat", sum := "f0a98e5d9d84171f70a5a9539526ffa65c0efbe5c560fd230d30d0c42938c089", func := "althing/althinglaw12.ReferTracks", spec := "referTracks", inPlace := ["slices.overlaps[althing/grid.cell[althing/api.Referendum]]"], unfollowed := true, recurses := true, apart := false }
def ReferTracksSaid : Prop := referTracksRow.holds Tryz.pinned (OpenSpec.ofChange referTracksSpec)

/-- ITS FALSE NEIGHBOUR: 'it returns false'. Refute it at one input. -/
def referTracksWrong : ChangeSpec := { name := "referTracks", fn := fun _ => fun
  | [d1, d2, d3] => { results := [.lit (.bool false)], args := [d1, d2, d3] }
  | _ => none }
def ReferTracksWrongFalsely : Prop := referTracksRow.holds Tryz.pinned (OpenSpec.ofChange referTracksWrong)

/-- 'althinglaw12.ReferBacks': WHATEVER THE INPUT: true; the input reads as it did. -/
def referBacksSpec : ChangeSpec := { name := "referBacks", fn := fun _ => fun
  | [d1, d2, d3] => { results := [.lit (.bool true)], args := [d1, d2, d3] }
  | _ => none }
def referBacksRow : OpenClaim := { program := "ytjjfimbihdoknaagreat", sum := "f0a98e5d9d84171f70a5a9539526ffa65c0efbe5c560fd230d30d0c42938c089", func := "althing/althinglaw12.ReferBacks", spec := "referBacks", inPlace := ["slices.overlaps[althing/grid.cell[althing/api.Referendum]]"], unfollowed := true, recurses := true, apart := false }
def ReferBacksSaid : Prop := referBacksRow.holds Tryz.pinned (OpenSpec.ofChange referBacksSpec)

/-- ITS FALSE NEIGHBOUR: 'it returns false'. Refute it at one input. -/
def referBacksWrong : ChangeSpec := { name := "referBacks", fn := fun _ => fun
  | [d1, d2, d3] => { results := [.lit (.bool false)], args := [d1, d2, d3] }
  | _ => none }
def ReferBacksWrongFalsely : Prop := referBacksRow.holds Tryz.pinned (OpenSpec.ofChange referBacksWrong)

/-- 'althinglaw12.ReferOfNothing': WHATEVER THE INPUT: true; the input reads as it did. -/
def referOfNothingSpec : ChangeSpec := { name := "referOfNothing", fn := fun _ => fun
  | [d] => { results := [.lit (.bool true)], args := [d] }
  | _ => none }
def referOfNothingRow : OpenClaim := { program := "ytjjfimbihdoknaagreat", sum := "f0a98e5d9d84171f70a5a9539526ffa65c0efbe5c560fd230d30d0c42938c089", func := "althing/althinglaw12.ReferOfNothing", spec := "referOfNothing", inPlace := ["slices.overlaps[althing/grid.cell[althing/api.Referendum]]"], unfollowed := true, recurses := true, apart := false }
def ReferOfNothingSaid : Prop := referOfNothingRow.holds Tryz.pinned (OpenSpec.ofChange referOfNothingSpec)

/-- ITS FALSE NEIGHBOUR: 'it returns false'. Refute it at one input. -/
def referOfNothingWrong : ChangeSpec := { name := "referOfNothing", fn := fun _ => fun
  | [d] => { results := [.lit (.bool false)], args := [d] }
  | _ => none }
def ReferOfNothingWrongFalsely : Prop := referOfNothingRow.holds Tryz.pinned (OpenSpec.ofChange referOfNothingWrong)

/-- 'althinglaw12.ReferRefunds': WHATEVER THE INPUT: true; the input reads as it did. -/
def referRefundsSpec : ChangeSpec := { name := "referRefunds", fn := fun _ => fun
  | [d1, d2, d3, d4] => { results := [.lit (.bool true)], args := [d1, d2, d3, d4] }
  | _ => none }
def referRefundsRow : OpenClaim := { program := "ytjjfimbihdoknaagreat", sum := "f0a98e5d9d84171f70a5a9539526ffa65c0efbe5c560fd230d30d0c42938c089", func := "althing/althinglaw12.ReferRefunds", spec := "referRefunds", inPlace := ["slices.overlaps[althing/grid.cell[althing/api.Referendum]]"], unfollowed := true, recurses := true, apart := false }
def ReferRefundsSaid : Prop := referRefundsRow.holds Tryz.pinned (OpenSpec.ofChange referRefundsSpec)

/-- ITS FALSE NEIGHBOUR: 'it returns false'. Refute it at one input. -/
def referRefundsWrong : ChangeSpec := { name := "referRefunds", fn := fun _ => fun
  | [d1, d2, d3, d4] => { results := [.lit (.bool false)], args := [d1, d2, d3, d4] }
  | _ => none }
def ReferRefundsWrongFalsely : Prop := referRefundsRow.holds Tryz.pinned (OpenSpec.ofChange referRefundsWrong)

/-- 'althinglaw12.ReferQueue': WHATEVER THE INPUT: true; the input reads as it did. -/
def referQueueSpec : ChangeSpec := { name := "referQueue", fn := fun _ => fun
  | [d1, d2] => { results := [.lit (.bool true)], args := [d1, d2] }
  | _ => none }
def referQueueRow : OpenClaim := { program := "ytjjfimbihdoknaagreat", sum := "f0a98e5d9d84171f70a5a9539526ffa65c0efbe5c560fd230d30d0c42938c089", func := "althing/althinglaw12.ReferQueue", spec := "referQueue", inPlace := ["slices.overlaps[althing/grid.cell[althing/api.Referendum]]", "slices.overlaps[althing/grid.cell[*althing/voting.record]]", "slices.overlaps[althing/grid.cell[althing/api.Vote]]", "slices.overlaps[althing/grid.cell[int]]"], unfollowed := true, recurses := true, apart := false }
def ReferQueueSaid : Prop := referQueueRow.holds Tryz.pinned (OpenSpec.ofChange referQueueSpec)

/-- ITS FALSE NEIGHBOUR: 'it returns false'. Refute it at one input. -/
def referQueueWrong : ChangeSpec := { name := "referQueue", fn := fun _ => fun
  | [d1, d2] => { results := [.lit (.bool false)], args := [d1, d2] }
  | _ => none }
def ReferQueueWrongFalsely : Prop := referQueueRow.holds Tryz.pinned (OpenSpec.ofChange referQueueWrong)

/-- 'althinglaw12.ReferConfirms': WHATEVER THE INPUT: true; the input reads as it did. -/
def referConfirmsSpec : ChangeSpec := { name := "referConfirms", fn := fun _ => fun
  | [d1, d2, d3, d4, d5] => { results := [.lit (.bool true)], args := [d1, d2, d3, d4, d5] }
  | _ => none }
def referConfirmsRow : OpenClaim := { program := "ytjjfimbihdoknaagreat", sum := "f0a98e5d9d84171f70a5a9539526ffa65c0efbe5c560fd230d30d0c42938c089", func := "althing/althinglaw12.ReferConfirms", spec := "referConfirms", inPlace := ["slices.overlaps[althing/grid.cell[althing/api.Referendum]]", "slices.overlaps[althing/grid.cell[*althing/voting.record]]", "slices.overlaps[althing/grid.cell[althing/api.Vote]]", "slices.overlaps[althing/grid.cell[int]]"], unfollowed := true, recurses := true, apart := false }
def ReferConfirmsSaid : Prop := referConfirmsRow.holds Tryz.pinned (OpenSpec.ofChange referConfirmsSpec)

/-- ITS FALSE NEIGHBOUR: 'it returns false'. Refute it at one input. -/
def referConfirmsWrong : ChangeSpec := { name := "referConfirms", fn := fun _ => fun
  | [d1, d2, d3, d4, d5] => { results := [.lit (.bool false)], args := [d1, d2, d3, d4, d5] }
  | _ => none }
def ReferConfirmsWrongFalsely : Prop := referConfirmsRow.holds Tryz.pinned (OpenSpec.ofChange referConfirmsWrong)

/-- 'althinglaw12.ReferFails': WHATEVER THE INPUT: true; the input reads as it did. -/
def referFailsSpec : ChangeSpec := { name := "referFails", fn := fun _ => fun
  | [d1, d2] => { results := [.lit (.bool true)], args := [d1, d2] }
  | _ => none }
def referFailsRow : OpenClaim := { program := "ytjjfimbihdoknaagreat", sum := "f0a98e5d9d84171f70a5a9539526ffa65c0efbe5c560fd230d30d0c42938c089", func := "althing/althinglaw12.ReferFails", spec := "referFails", inPlace := ["slices.overlaps[althing/grid.cell[althing/api.Referendum]]", "slices.overlaps[althing/grid.cell[*althing/voting.record]]", "slices.overlaps[althing/grid.cell[althing/api.Vote]]", "slices.overlaps[althing/grid.cell[int]]"], unfollowed := true, recurses := true, apart := false }
def ReferFailsSaid : Prop := referFailsRow.holds Tryz.pinned (OpenSpec.ofChange referFailsSpec)

/-- ITS FALSE NEIGHBOUR: 'it returns false'. Refute it at one input. -/
def referFailsWrong : ChangeSpec := { name := "referFails", fn := fun _ => fun
  | [d1, d2] => { results := [.lit (.bool false)], args := [d1, d2] }
  | _ => none }
def ReferFailsWrongFalsely : Prop := referFailsRow.holds Tryz.pinned (OpenSpec.ofChange referFailsWrong)

/-- 'althinglaw12.ReferPlays': WHATEVER THE INPUT: true; the input reads as it did. -/
def referPlaysSpec : ChangeSpec := { name := "referPlays", fn := fun _ => fun
  | [d1, d2] => { results := [.lit (.bool true)], args := [d1, d2] }
  | _ => none }
def referPlaysRow : OpenClaim := { program := "ytjjfimbihdoknaagreat", sum := "f0a98e5d9d84171f70a5a9539526ffa65c0efbe5c560fd230d30d0c42938c089", func := "althing/althinglaw12.ReferPlays", spec := "referPlays", inPlace := ["slices.overlaps[althing/grid.cell[althing/api.Referendum]]", "slices.overlaps[althing/grid.cell[*althing/voting.record]]", "slices.overlaps[althing/grid.cell[althing/api.Vote]]", "slices.overlaps[althing/grid.cell[int]]"], unfollowed := true, recurses := true, apart := false }
def ReferPlaysSaid : Prop := referPlaysRow.holds Tryz.pinned (OpenSpec.ofChange referPlaysSpec)

/-- ITS FALSE NEIGHBOUR: 'it returns false'. Refute it at one input. -/
def referPlaysWrong : ChangeSpec := { name := "referPlays", fn := fun _ => fun
  | [d1, d2] => { results := [.lit (.bool false)], args := [d1, d2] }
  | _ => none }
def ReferPlaysWrongFalsely : Prop := referPlaysRow.holds Tryz.pinned (OpenSpec.ofChange referPlaysWrong)

/-- 'althinglaw12.ReferHolds': WHATEVER THE INPUT: true; the input reads as it did. -/
def referHoldsSpec : ChangeSpec := { name := "referHolds", fn := fun _ => fun
  | [d1, d2] => { results := [.lit (.bool true)], args := [d1, d2] }
  | _ => none }
def referHoldsRow : OpenClaim := { program := "ytjjfimbihdoknaagreat", sum := "f0a98e5d9d84171f70a5a9539526ffa65c0efbe5c560fd230d30d0c42938c089", func := "althing/althinglaw12.ReferHolds", spec := "referHolds", inPlace := ["slices.overlaps[althing/grid.cell[althing/api.Referendum]]", "slices.overlaps[althing/grid.cell[*althing/voting.record]]", "slices.overlaps[althing/grid.cell[althing/api.Vote]]", "slices.overlaps[althing/grid.cell[int]]"], unfollowed := true, recurses := true, apart := false }
def ReferHoldsSaid : Prop := referHoldsRow.holds Tryz.pinned (OpenSpec.ofChange referHoldsSpec)

/-- ITS FALSE NEIGHBOUR: 'it returns false'. Refute it at one input. -/
def referHoldsWrong : ChangeSpec := { name := "referHolds", fn := fun _ => fun
  | [d1, d2] => { results := [.lit (.bool false)], args := [d1, d2] }
  | _ => none }
def ReferHoldsWrongFalsely : Prop := referHoldsRow.holds Tryz.pinned (OpenSpec.ofChange referHoldsWrong)

/-- 'althinglaw12.ReferErrs': WHATEVER THE INPUT: true; the input reads as it did. -/
def referErrsSpec : ChangeSpec := { name := "referErrs", fn := fun _ => fun
  | [d1, d2, d3] => { results := [.lit (.bool true)], args := [d1, d2, d3] }
  | _ => none }
def referErrsRow : OpenClaim := { program := "ytjjfimbihdoknaagreat", sum := "f0a98e5d9d84171f70a5a9539526ffa65c0efbe5c560fd230d30d0c42938c089", func := "althing/althinglaw12.ReferErrs", spec := "referErrs", inPlace := ["slices.overlaps[althing/grid.cell[althing/api.Referendum]]", "slices.overlaps[althing/grid.cell[*althing/voting.record]]", "slices.overlaps[althing/grid.cell[althing/api.Vote]]", "slices.overlaps[althing/grid.cell[int]]"], unfollowed := true, recurses := true, apart := false }
def ReferErrsSaid : Prop := referErrsRow.holds Tryz.pinned (OpenSpec.ofChange referErrsSpec)

/-- ITS FALSE NEIGHBOUR: 'it returns false'. Refute it at one input. -/
def referErrsWrong : ChangeSpec := { name := "referErrs", fn := fun _ => fun
  | [d1, d2, d3] => { results := [.lit (.bool false)], args := [d1, d2, d3] }
  | _ => none }
def ReferErrsWrongFalsely : Prop := referErrsRow.holds Tryz.pinned (OpenSpec.ofChange referErrsWrong)

/- THE SECOND FORM. 'bulk': how many values and letters a reading holds, each counted each time it is reached (what is shared counts as often as it is met; a slice's spare places count too). A statement '..UptoSaid' is the law's where the arguments, and the package variables that the reading takes, are together of bulk at most 1048576: NARROWER than '..Said'. Prove '..Said' where nothing that the law and all that it calls make is longer than what came in: it says more and counts as full. Else prove '..UptoSaid'. A law counts once. -/
mutual
def uptoBulk {H : Type} : DataW H → Nat
  | .lit (.string bytes) => bytes.length + 1
  | .lit _ => 1
  | .nil => 1
  | .ptr d => uptoBulk d + 1
  | .slice elems spare => uptoBulkAll elems + uptoBulkAll spare + 1
  | .agg parts => uptoBulkAll parts + 1
  | .iface _ d => uptoBulk d + 1
  | .map entries => uptoBulkEntries entries + 1
  | .held _ => 1
def uptoBulkAll {H : Type} : List (DataW H) → Nat
  | [] => 0
  | d :: r => uptoBulk d + uptoBulkAll r
def uptoBulkEntries {H : Type} : List (Lit × DataW H) → Nat
  | [] => 0
  | x :: r => uptoBulkEntry x + uptoBulkEntries r
def uptoBulkEntry {H : Type} : Lit × DataW H → Nat
  | (.string bytes, d) => bytes.length + uptoBulk d + 1
  | (_, d) => uptoBulk d + 1
 end
def uptoSmall : (H : Type) → List (DataW H) → Bool := fun _ ds => decide (uptoBulkAll ds ≤ 1048576)
def OpenSpec.upto (s : _root_.Go.ChangeSpec) : _root_.Go.OpenSpec := { _root_.Go.OpenSpec.ofChange s with cond := some uptoSmall }

/-- 'althinglaw12.ReferFull', WHERE WHAT IT READS IS OF BULK AT MOST 1048576: true; the input reads as it did. -/
def referFullUptoRow : OpenClaim := { program := "ytjjfimbihdoknaagreat", sum := "f0a98e5d9d84171f70a5a9539526ffa65c0efbe5c560fd230d30d0c42938c089", func := "althing/althinglaw12.ReferFull", spec := "referFull", inPlace := ["slices.overlaps[althing/grid.cell[althing/api.Referendum]]"], unfollowed := true, recurses := true, apart := false, narrowed := true }
def ReferFullUptoSaid : Prop := referFullUptoRow.holds Tryz.pinned (OpenSpec.upto referFullSpec)

/-- 'althinglaw12.ReferTimes', WHERE WHAT IT READS IS OF BULK AT MOST 1048576: true; the input reads as it did. -/
def referTimesUptoRow : OpenClaim := { program := "ytjjfimbihdoknaagreat", sum := "f0a98e5d9d84171f70a5a9539526ffa65c0efbe5c560fd230d30d0c42938c089", func := "althing/althinglaw12.ReferTimes", spec := "referTimes", inPlace := ["slices.overlaps[althing/grid.cell[althing/api.Referendum]]"], unfollowed := true, recurses := true, apart := false, narrowed := true }
def ReferTimesUptoSaid : Prop := referTimesUptoRow.holds Tryz.pinned (OpenSpec.upto referTimesSpec)

/-- 'althinglaw12.ReferTracks', WHERE WHAT IT READS IS OF BULK AT MOST 1048576: true; the input reads as it did. -/
def referTracksUptoRow : OpenClaim := { program := "ytjjfimbihdoknaagreat", sum := "f0a98e5d9d84171f70a5a9539526ffa65c0efbe5c560fd230d30d0c42938c089", func := "althing/althinglaw12.ReferTracks", spec := "referTracks", inPlace := ["slices.overlaps[althing/grid.cell[althing/api.Referendum]]"], unfollowed := true, recurses := true, apart := false, narrowed := true }
def ReferTracksUptoSaid : Prop := referTracksUptoRow.holds Tryz.pinned (OpenSpec.upto referTracksSpec)

/-- 'althinglaw12.ReferBacks', WHERE WHAT IT READS IS OF BULK AT MOST 1048576: true; the input reads as it did. -/
def referBacksUptoRow : OpenClaim := { program := "ytjjfimbihdoknaagreat", sum := "f0a98e5d9d84171f70a5a9539526ffa65c0efbe5c560fd230d30d0c42938c089", func := "althing/althinglaw12.ReferBacks", spec := "referBacks", inPlace := ["slices.overlaps[althing/grid.cell[althing/api.Referendum]]"], unfollowed := true, recurses := true, apart := false, narrowed := true }
def ReferBacksUptoSaid : Prop := referBacksUptoRow.holds Tryz.pinned (OpenSpec.upto referBacksSpec)

/-- 'althinglaw12.ReferOfNothing', WHERE WHAT IT READS IS OF BULK AT MOST 1048576: true; the input reads as it did. -/
def referOfNothingUptoRow : OpenClaim := { program := "ytjjfimbihdoknaagreat", sum := "f0a98e5d9d84171f70a5a9539526ffa65c0efbe5c560fd230d30d0c42938c089", func := "althing/althinglaw12.ReferOfNothing", spec := "referOfNothing", inPlace := ["slices.overlaps[althing/grid.cell[althing/api.Referendum]]"], unfollowed := true, recurses := true, apart := false, narrowed := true }
def ReferOfNothingUptoSaid : Prop := referOfNothingUptoRow.holds Tryz.pinned (OpenSpec.upto referOfNothingSpec)

/-- 'althinglaw12.ReferRefunds', WHERE WHAT IT READS IS OF BULK AT MOST 1048576: true; the input reads as it did. -/
def referRefundsUptoRow : OpenClaim := { program := "ytjjfimbihdoknaagreat", sum := "f0a98e5d9d84171f70a5a9539526ffa65c0efbe5c560fd230d30d0c42938c089", func := "althing/althinglaw12.ReferRefunds", spec := "referRefunds", inPlace := ["slices.overlaps[althing/grid.cell[althing/api.Referendum]]"], unfollowed := true, recurses := true, apart := false, narrowed := true }
def ReferRefundsUptoSaid : Prop := referRefundsUptoRow.holds Tryz.pinned (OpenSpec.upto referRefundsSpec)

/-- 'althinglaw12.ReferQueue', WHERE WHAT IT READS IS OF BULK AT MOST 1048576: true; the input reads as it did. -/
def referQueueUptoRow : OpenClaim := { program := "ytjjfimbihdoknaagreat", sum := "f0a98e5d9d84171f70a5a9539526ffa65c0efbe5c560fd230d30d0c42938c089", func := "althing/althinglaw12.ReferQueue", spec := "referQueue", inPlace := ["slices.overlaps[althing/grid.cell[althing/api.Referendum]]", "slices.overlaps[althing/grid.cell[*althing/voting.record]]", "slices.overlaps[althing/grid.cell[althing/api.Vote]]", "slices.overlaps[althing/grid.cell[int]]"], unfollowed := true, recurses := true, apart := false, narrowed := true }
def ReferQueueUptoSaid : Prop := referQueueUptoRow.holds Tryz.pinned (OpenSpec.upto referQueueSpec)

/-- 'althinglaw12.ReferConfirms', WHERE WHAT IT READS IS OF BULK AT MOST 1048576: true; the input reads as it did. -/
def referConfirmsUptoRow : OpenClaim := { program := "ytjjfimbihdoknaagreat", sum := "f0a98e5d9d84171f70a5a9539526ffa65c0efbe5c560fd230d30d0c42938c089", func := "althing/althinglaw12.ReferConfirms", spec := "referConfirms", inPlace := ["slices.overlaps[althing/grid.cell[althing/api.Referendum]]", "slices.overlaps[althing/grid.cell[*althing/voting.record]]", "slices.overlaps[althing/grid.cell[althing/api.Vote]]", "slices.overlaps[althing/grid.cell[int]]"], unfollowed := true, recurses := true, apart := false, narrowed := true }
def ReferConfirmsUptoSaid : Prop := referConfirmsUptoRow.holds Tryz.pinned (OpenSpec.upto referConfirmsSpec)

/-- 'althinglaw12.ReferFails', WHERE WHAT IT READS IS OF BULK AT MOST 1048576: true; the input reads as it did. -/
def referFailsUptoRow : OpenClaim := { program := "ytjjfimbihdoknaagreat", sum := "f0a98e5d9d84171f70a5a9539526ffa65c0efbe5c560fd230d30d0c42938c089", func := "althing/althinglaw12.ReferFails", spec := "referFails", inPlace := ["slices.overlaps[althing/grid.cell[althing/api.Referendum]]", "slices.overlaps[althing/grid.cell[*althing/voting.record]]", "slices.overlaps[althing/grid.cell[althing/api.Vote]]", "slices.overlaps[althing/grid.cell[int]]"], unfollowed := true, recurses := true, apart := false, narrowed := true }
def ReferFailsUptoSaid : Prop := referFailsUptoRow.holds Tryz.pinned (OpenSpec.upto referFailsSpec)

/-- 'althinglaw12.ReferPlays', WHERE WHAT IT READS IS OF BULK AT MOST 1048576: true; the input reads as it did. -/
def referPlaysUptoRow : OpenClaim := { program := "ytjjfimbihdoknaagreat", sum := "f0a98e5d9d84171f70a5a9539526ffa65c0efbe5c560fd230d30d0c42938c089", func := "althing/althinglaw12.ReferPlays", spec := "referPlays", inPlace := ["slices.overlaps[althing/grid.cell[althing/api.Referendum]]", "slices.overlaps[althing/grid.cell[*althing/voting.record]]", "slices.overlaps[althing/grid.cell[althing/api.Vote]]", "slices.overlaps[althing/grid.cell[int]]"], unfollowed := true, recurses := true, apart := false, narrowed := true }
def ReferPlaysUptoSaid : Prop := referPlaysUptoRow.holds Tryz.pinned (OpenSpec.upto referPlaysSpec)

/-- 'althinglaw12.ReferHolds', WHERE WHAT IT READS IS OF BULK AT MOST 1048576: true; the input reads as it did. -/
def referHoldsUptoRow : OpenClaim := { program := "ytjjfimbihdoknaagreat", sum := "f0a98e5d9d84171f70a5a9539526ffa65c0efbe5c560fd230d30d0c42938c089", func := "althing/althinglaw12.ReferHolds", spec := "referHolds", inPlace := ["slices.overlaps[althing/grid.cell[althing/api.Referendum]]", "slices.overlaps[althing/grid.cell[*althing/voting.record]]", "slices.overlaps[althing/grid.cell[althing/api.Vote]]", "slices.overlaps[althing/grid.cell[int]]"], unfollowed := true, recurses := true, apart := false, narrowed := true }
def ReferHoldsUptoSaid : Prop := referHoldsUptoRow.holds Tryz.pinned (OpenSpec.upto referHoldsSpec)

/-- 'althinglaw12.ReferErrs', WHERE WHAT IT READS IS OF BULK AT MOST 1048576: true; the input reads as it did. -/
def referErrsUptoRow : OpenClaim := { program := "ytjjfimbihdoknaagreat", sum := "f0a98e5d9d84171f70a5a9539526ffa65c0efbe5c560fd230d30d0c42938c089", func := "althing/althinglaw12.ReferErrs", spec := "referErrs", inPlace := ["slices.overlaps[althing/grid.cell[althing/api.Referendum]]", "slices.overlaps[althing/grid.cell[*althing/voting.record]]", "slices.overlaps[althing/grid.cell[althing/api.Vote]]", "slices.overlaps[althing/grid.cell[int]]"], unfollowed := true, recurses := true, apart := false, narrowed := true }
def ReferErrsUptoSaid : Prop := referErrsUptoRow.holds Tryz.pinned (OpenSpec.upto referErrsSpec)

end Rows
end Go.Proofs.YtjjfimbihdoknaaGreat
