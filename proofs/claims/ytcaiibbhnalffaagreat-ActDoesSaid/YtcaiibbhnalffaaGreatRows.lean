/-
  NARROWER THAN 'FOR EVERY INPUT', by the rows' own cells (each row's printed sentence says how): ActDoes: loops · ActNone: loops.
  DERIVED. THE GIVEN ROWS OF THIS SEAT. 6 by the template 'for every input the law returns true; each argument reads behind the call as it read before'; 0 by the template 'total and deterministic' (their statements: YtcaiibbhnalffaaGreatTotals.lean).
  GIVEN WITH THE SEED: the statements are not yours to turn. If you find one false, say at which input.
  Laid BY PROGRAM, IN A SANDBOX (cutbox-rows.mjs): the forced cells as the released guide's own fill.sh prints them over the translation ae53bca5a1738bc4… (all of the seat's roots in one cut). By AI agents, Wed Nov 11 2026. No macro, syntax, notation, axiom, sorry.
-/
import Derived.Test.YtcaiibbhnalffaaGreatChecked
import GoSem.Claim
import GoSem.ClaimJoined
import GoSem.ClaimMapViews
import Derived.JoinedTies
import Derived.KernelRfl
namespace Go.Proofs.YtcaiibbhnalffaaGreat
/- THE CELL 'sum', in the pinned program and in every row, IS THE sha256 OF THE DUMP (.gsa) THAT YtcaiibbhnalffaaGreatProg.lean LOADS. Nothing in Lean hashes anything: it is a label: what it is worth is what the hold of that sum in a sandbox is worth. -/
noncomputable def Tryz.pinned : Pinned := { name := "ytcaiibbhnalffaagreat", sum := "ae53bca5a1738bc4aa1dba5b43bfce155a6a0597c738771ca19e30ea8bbf3970", checked := Tryz.checked }
namespace Rows
def none {H : Type} : Left H := { results := [], args := [] }

/-- 'althinglaw13.ActRanks': WHATEVER THE INPUT: true; the input reads as it did. -/
def actRanksSpec : ChangeSpec := { name := "actRanks", fn := fun _ => fun
  | [d1, d2, d3] => { results := [.lit (.bool true)], args := [d1, d2, d3] }
  | _ => none }
def actRanksRow : OpenClaim := { program := "ytcaiibbhnalffaagreat", sum := "ae53bca5a1738bc4aa1dba5b43bfce155a6a0597c738771ca19e30ea8bbf3970", func := "althing/althinglaw13.ActRanks", spec := "actRanks", inPlace := ["slices.overlaps[althing/grid.cell[althing/api.Referendum]]"], unfollowed := true, recurses := true, apart := false }
def ActRanksSaid : Prop := actRanksRow.holds Tryz.pinned (OpenSpec.ofChange actRanksSpec)

/-- ITS FALSE NEIGHBOUR: 'it returns false'. Refute it at one input. -/
def actRanksWrong : ChangeSpec := { name := "actRanks", fn := fun _ => fun
  | [d1, d2, d3] => { results := [.lit (.bool false)], args := [d1, d2, d3] }
  | _ => none }
def ActRanksWrongFalsely : Prop := actRanksRow.holds Tryz.pinned (OpenSpec.ofChange actRanksWrong)

/-- 'althinglaw13.ActSpends': WHATEVER THE INPUT: true; the input reads as it did. -/
def actSpendsSpec : ChangeSpec := { name := "actSpends", fn := fun _ => fun
  | [d1, d2, d3, d4] => { results := [.lit (.bool true)], args := [d1, d2, d3, d4] }
  | _ => none }
def actSpendsRow : OpenClaim := { program := "ytcaiibbhnalffaagreat", sum := "ae53bca5a1738bc4aa1dba5b43bfce155a6a0597c738771ca19e30ea8bbf3970", func := "althing/althinglaw13.ActSpends", spec := "actSpends", inPlace := ["slices.overlaps[althing/grid.cell[althing/api.Referendum]]"], unfollowed := true, recurses := true, apart := false }
def ActSpendsSaid : Prop := actSpendsRow.holds Tryz.pinned (OpenSpec.ofChange actSpendsSpec)

/-- ITS FALSE NEIGHBOUR: 'it returns false'. Refute it at one input. -/
def actSpendsWrong : ChangeSpec := { name := "actSpends", fn := fun _ => fun
  | [d1, d2, d3, d4] => { results := [.lit (.bool false)], args := [d1, d2, d3, d4] }
  | _ => none }
def ActSpendsWrongFalsely : Prop := actSpendsRow.holds Tryz.pinned (OpenSpec.ofChange actSpendsWrong)

/-- 'althinglaw13.ActBatches': WHATEVER THE INPUT: true; the input reads as it did. -/
def actBatchesSpec : ChangeSpec := { name := "actBatches", fn := fun _ => fun
  | [d1, d2] => { results := [.lit (.bool true)], args := [d1, d2] }
  | _ => none }
def actBatchesRow : OpenClaim := { program := "ytcaiibbhnalffaagreat", sum := "ae53bca5a1738bc4aa1dba5b43bfce155a6a0597c738771ca19e30ea8bbf3970", func := "althing/althinglaw13.ActBatches", spec := "actBatches", inPlace := ["slices.overlaps[althing/grid.cell[althing/api.Referendum]]"], unfollowed := true, recurses := true, apart := false }
def ActBatchesSaid : Prop := actBatchesRow.holds Tryz.pinned (OpenSpec.ofChange actBatchesSpec)

/-- ITS FALSE NEIGHBOUR: 'it returns false'. Refute it at one input. -/
def actBatchesWrong : ChangeSpec := { name := "actBatches", fn := fun _ => fun
  | [d1, d2] => { results := [.lit (.bool false)], args := [d1, d2] }
  | _ => none }
def ActBatchesWrongFalsely : Prop := actBatchesRow.holds Tryz.pinned (OpenSpec.ofChange actBatchesWrong)

/-- 'althinglaw13.ActNests': WHATEVER THE INPUT: true; the input reads as it did. -/
def actNestsSpec : ChangeSpec := { name := "actNests", fn := fun _ => fun
  | [d1, d2] => { results := [.lit (.bool true)], args := [d1, d2] }
  | _ => none }
def actNestsRow : OpenClaim := { program := "ytcaiibbhnalffaagreat", sum := "ae53bca5a1738bc4aa1dba5b43bfce155a6a0597c738771ca19e30ea8bbf3970", func := "althing/althinglaw13.ActNests", spec := "actNests", inPlace := ["slices.overlaps[althing/grid.cell[althing/api.Referendum]]"], unfollowed := true, recurses := true, apart := false }
def ActNestsSaid : Prop := actNestsRow.holds Tryz.pinned (OpenSpec.ofChange actNestsSpec)

/-- ITS FALSE NEIGHBOUR: 'it returns false'. Refute it at one input. -/
def actNestsWrong : ChangeSpec := { name := "actNests", fn := fun _ => fun
  | [d1, d2] => { results := [.lit (.bool false)], args := [d1, d2] }
  | _ => none }
def ActNestsWrongFalsely : Prop := actNestsRow.holds Tryz.pinned (OpenSpec.ofChange actNestsWrong)

/-- 'althinglaw13.ActDoes': WHATEVER THE INPUT: true; the input reads as it did. -/
def actDoesSpec : ChangeSpec := { name := "actDoes", fn := fun _ => fun
  | [d1, d2, d3, d4] => { results := [.lit (.bool true)], args := [d1, d2, d3, d4] }
  | _ => none }
def actDoesRow : OpenClaim := { program := "ytcaiibbhnalffaagreat", sum := "ae53bca5a1738bc4aa1dba5b43bfce155a6a0597c738771ca19e30ea8bbf3970", func := "althing/althinglaw13.ActDoes", spec := "actDoes", inPlace := ["slices.overlaps[althing/grid.cell[althing/api.Referendum]]"], unfollowed := true, recurses := true, loops := true, apart := false }
def ActDoesSaid : Prop := actDoesRow.holds Tryz.pinned (OpenSpec.ofChange actDoesSpec)

/-- ITS FALSE NEIGHBOUR: 'it returns false'. Refute it at one input. -/
def actDoesWrong : ChangeSpec := { name := "actDoes", fn := fun _ => fun
  | [d1, d2, d3, d4] => { results := [.lit (.bool false)], args := [d1, d2, d3, d4] }
  | _ => none }
def ActDoesWrongFalsely : Prop := actDoesRow.holds Tryz.pinned (OpenSpec.ofChange actDoesWrong)

/-- 'althinglaw13.ActNone': WHATEVER THE INPUT: true; the input reads as it did. -/
def actNoneSpec : ChangeSpec := { name := "actNone", fn := fun _ => fun
  | [d1, d2] => { results := [.lit (.bool true)], args := [d1, d2] }
  | _ => none }
def actNoneRow : OpenClaim := { program := "ytcaiibbhnalffaagreat", sum := "ae53bca5a1738bc4aa1dba5b43bfce155a6a0597c738771ca19e30ea8bbf3970", func := "althing/althinglaw13.ActNone", spec := "actNone", inPlace := ["slices.overlaps[althing/grid.cell[althing/api.Referendum]]"], unfollowed := true, recurses := true, loops := true, apart := false }
def ActNoneSaid : Prop := actNoneRow.holds Tryz.pinned (OpenSpec.ofChange actNoneSpec)

/-- ITS FALSE NEIGHBOUR: 'it returns false'. Refute it at one input. -/
def actNoneWrong : ChangeSpec := { name := "actNone", fn := fun _ => fun
  | [d1, d2] => { results := [.lit (.bool false)], args := [d1, d2] }
  | _ => none }
def ActNoneWrongFalsely : Prop := actNoneRow.holds Tryz.pinned (OpenSpec.ofChange actNoneWrong)

/- THE SECOND FORM. 'bulk': how many values and letters a reading holds, each counted each time it is reached (what is shared counts as often as it is met; a slice's spare places count too). A statement '..UptoSaid' is the law's where the arguments, and the package variables that the reading takes, are together of bulk at most 1048576: NARROWER than '..Said'. Prove '..Said' where nothing that the law and all that it calls make is longer than what came in: it says more and counts as full. Else prove '..UptoSaid'. A law counts once. -/
mutual
def uptoBulk {H : Type} : DataW H → Nat
  | .lit (.string bytes) => bytes.length + 1
  | .lit _ => 1
  | .nil => 1
  | .ptr d => uptoBulk d + 1
  | .slice elems spare => uptoBulkAll elems + uptoBulkAll spare + 1
  | .agg parts => uptoBulkAll parts + 1
  | .iface _ d => uptoBulk d + 1
  | .map entries => uptoBulkEntries entries + 1
  | .held _ => 1
def uptoBulkAll {H : Type} : List (DataW H) → Nat
  | [] => 0
  | d :: r => uptoBulk d + uptoBulkAll r
def uptoBulkEntries {H : Type} : List (Lit × DataW H) → Nat
  | [] => 0
  | x :: r => uptoBulkEntry x + uptoBulkEntries r
def uptoBulkEntry {H : Type} : Lit × DataW H → Nat
  | (.string bytes, d) => bytes.length + uptoBulk d + 1
  | (_, d) => uptoBulk d + 1
 end
def uptoSmall : (H : Type) → List (DataW H) → Bool := fun _ ds => decide (uptoBulkAll ds ≤ 1048576)
def OpenSpec.upto (s : _root_.Go.ChangeSpec) : _root_.Go.OpenSpec := { _root_.Go.OpenSpec.ofChange s with cond := some uptoSmall }

/-- 'althinglaw13.ActRanks', WHERE WHAT IT READS IS OF BULK AT MOST 1048576: true; the input reads as it did. -/
def actRanksUptoRow : OpenClaim := { program := "ytcaiibbhnalffaagreat", sum := "ae53bca5a1738bc4aa1dba5b43bfce155a6a0597c738771ca19e30ea8bbf3970", func := "althing/althinglaw13.ActRanks", spec := "actRanks", inPlace := ["slices.overlaps[althing/grid.cell[althing/api.Referendum]]"], unfollowed := true, recurses := true, apart := false, narrowed := true }
def ActRanksUptoSaid : Prop := actRanksUptoRow.holds Tryz.pinned (OpenSpec.upto actRanksSpec)

/-- 'althinglaw13.ActSpends', WHERE WHAT IT READS IS OF BULK AT MOST 1048576: true; the input reads as it did. -/
def actSpendsUptoRow : OpenClaim := { program := "ytcaiibbhnalffaagreat", sum := "ae53bca5a1738bc4aa1dba5b43bfce155a6a0597c738771ca19e30ea8bbf3970", func := "althing/althinglaw13.ActSpends", spec := "actSpends", inPlace := ["slices.overlaps[althing/grid.cell[althing/api.Referendum]]"], unfollowed := true, recurses := true, apart := false, narrowed := true }
def ActSpendsUptoSaid : Prop := actSpendsUptoRow.holds Tryz.pinned (OpenSpec.upto actSpendsSpec)

/-- 'althinglaw13.ActBatches', WHERE WHAT IT READS IS OF BULK AT MOST 1048576: true; the input reads as it did. -/
def actBatchesUptoRow : OpenClaim := { program := "ytcaiibbhnalffaagreat", sum := "ae53bca5a1738bc4aa1dba5b43bfce155a6a0597c738771ca19e30ea8bbf3970", func := "althing/althinglaw13.ActBatches", spec := "actBatches", inPlace := ["slices.overlaps[althing/grid.cell[althing/api.Referendum]]"], unfollowed := true, recurses := true, apart := false, narrowed := true }
def ActBatchesUptoSaid : Prop := actBatchesUptoRow.holds Tryz.pinned (OpenSpec.upto actBatchesSpec)

/-- 'althinglaw13.ActNests', WHERE WHAT IT READS IS OF BULK AT MOST 1048576: true; the input reads as it did. -/
def actNestsUptoRow : OpenClaim := { program := "ytcaiibbhnalffaagreat", sum := "ae53bca5a1738bc4aa1dba5b43bfce155a6a0597c738771ca19e30ea8bbf3970", func := "althing/althinglaw13.ActNests", spec := "actNests", inPlace := ["slices.overlaps[althing/grid.cell[althing/api.Referendum]]"], unfollowed := true, recurses := true, apart := false, narrowed := true }
def ActNestsUptoSaid : Prop := actNestsUptoRow.holds Tryz.pinned (OpenSpec.upto actNestsSpec)

/-- 'althinglaw13.ActDoes', WHERE WHAT IT READS IS OF BULK AT MOST 1048576: true; the input reads as it did. -/
def actDoesUptoRow : OpenClaim := { program := "ytcaiibbhnalffaagreat", sum := "ae53bca5a1738bc4aa1dba5b43bfce155a6a0597c738771ca19e30ea8bbf3970", func := "althing/althinglaw13.ActDoes", spec := "actDoes", inPlace := ["slices.overlaps[althing/grid.cell[althing/api.Referendum]]"], unfollowed := true, recurses := true, loops := true, apart := false, narrowed := true }
def ActDoesUptoSaid : Prop := actDoesUptoRow.holds Tryz.pinned (OpenSpec.upto actDoesSpec)

/-- 'althinglaw13.ActNone', WHERE WHAT IT READS IS OF BULK AT MOST 1048576: true; the input reads as it did. -/
def actNoneUptoRow : OpenClaim := { program := "ytcaiibbhnalffaagreat", sum := "ae53bca5a1738bc4aa1dba5b43bfce155a6a0597c738771ca19e30ea8bbf3970", func := "althing/althinglaw13.ActNone", spec := "actNone", inPlace := ["slices.overlaps[althing/grid.cell[althing/api.Referendum]]"], unfollowed := true, recurses := true, loops := true, apart := false, narrowed := true }
def ActNoneUptoSaid : Prop := actNoneUptoRow.holds Tryz.pinned (OpenSpec.upto actNoneSpec)

end Rows
end Go.Proofs.YtcaiibbhnalffaaGreat
