/-
  No cell of these rows narrows 'for every input' (looked for: loops, veiled, ifaces, maps, wideKeys, modest, calm, conditions, laid).
  DERIVED. THE GIVEN ROWS OF THIS SEAT. 8 by the template 'for every input the law returns true; each argument reads behind the call as it read before'; 0 by the template 'total and deterministic' (their statements: YtbfecgncndaodaaTotals.lean).
  GIVEN WITH THE SEED: the statements are not yours to turn. If you find one false, say at which input.
  Laid BY PROGRAM, IN A SANDBOX (cutbox-rows.mjs): the forced cells as the released guide's own fill.sh prints them over the translation 0458d57509a737af… (all of the seat's roots in one cut). By AI agents, Wed Nov 11 2026. No macro, syntax, notation, axiom, sorry.
-/
import Derived.Test.YtbfecgncndaodaaChecked
import GoSem.Claim
import GoSem.ClaimJoined
import GoSem.ClaimMapViews
import Derived.JoinedTies
import Derived.KernelRfl
namespace Go.Proofs.Ytbfecgncndaodaa
/- THE CELL 'sum', in the pinned program and in every row, IS THE sha256 OF THE DUMP (.gsa) THAT YtbfecgncndaodaaProg.lean LOADS. Nothing in Lean hashes anything: it is a label: what it is worth is what the hold of that sum in a sandbox is worth. -/
noncomputable def Try.pinned : Pinned := { name := "ytbfecgncndaodaa", sum := "0458d57509a737afefa0d583bbd257e505575321f2d74408963032ab26824f1d", checked := Try.checked }
namespace Rows
def none {H : Type} : Left H := { results := [], args := [] }

/-- 'althinglaw9.AgendaDue': WHATEVER THE INPUT: true; the input reads as it did. -/
def agendaDueSpec : ChangeSpec := { name := "agendaDue", fn := fun _ => fun
  | [d1, d2, d3] => { results := [.lit (.bool true)], args := [d1, d2, d3] }
  | _ => none }
def agendaDueRow : OpenClaim := { program := "ytbfecgncndaodaa", sum := "0458d57509a737afefa0d583bbd257e505575321f2d74408963032ab26824f1d", func := "althing/althinglaw9.AgendaDue", spec := "agendaDue", inPlace := ["slices.overlaps[althing/api.Task]"], unfollowed := true, recurses := true, apart := false }
def AgendaDueSaid : Prop := agendaDueRow.holds Try.pinned (OpenSpec.ofChange agendaDueSpec)

/-- ITS FALSE NEIGHBOUR: 'it returns false'. Refute it at one input. -/
def agendaDueWrong : ChangeSpec := { name := "agendaDue", fn := fun _ => fun
  | [d1, d2, d3] => { results := [.lit (.bool false)], args := [d1, d2, d3] }
  | _ => none }
def AgendaDueWrongFalsely : Prop := agendaDueRow.holds Try.pinned (OpenSpec.ofChange agendaDueWrong)

/-- 'althinglaw9.AgendaFull': WHATEVER THE INPUT: true; the input reads as it did. -/
def agendaFullSpec : ChangeSpec := { name := "agendaFull", fn := fun _ => fun
  | [d1, d2] => { results := [.lit (.bool true)], args := [d1, d2] }
  | _ => none }
def agendaFullRow : OpenClaim := { program := "ytbfecgncndaodaa", sum := "0458d57509a737afefa0d583bbd257e505575321f2d74408963032ab26824f1d", func := "althing/althinglaw9.AgendaFull", spec := "agendaFull", inPlace := ["slices.overlaps[althing/api.Task]"], unfollowed := true, recurses := true, apart := false }
def AgendaFullSaid : Prop := agendaFullRow.holds Try.pinned (OpenSpec.ofChange agendaFullSpec)

/-- ITS FALSE NEIGHBOUR: 'it returns false'. Refute it at one input. -/
def agendaFullWrong : ChangeSpec := { name := "agendaFull", fn := fun _ => fun
  | [d1, d2] => { results := [.lit (.bool false)], args := [d1, d2] }
  | _ => none }
def AgendaFullWrongFalsely : Prop := agendaFullRow.holds Try.pinned (OpenSpec.ofChange agendaFullWrong)

/-- 'althinglaw9.AgendaCarries': WHATEVER THE INPUT: true; the input reads as it did. -/
def agendaCarriesSpec : ChangeSpec := { name := "agendaCarries", fn := fun _ => fun
  | [d1, d2, d3] => { results := [.lit (.bool true)], args := [d1, d2, d3] }
  | _ => none }
def agendaCarriesRow : OpenClaim := { program := "ytbfecgncndaodaa", sum := "0458d57509a737afefa0d583bbd257e505575321f2d74408963032ab26824f1d", func := "althing/althinglaw9.AgendaCarries", spec := "agendaCarries", inPlace := ["slices.overlaps[althing/api.Task]"], unfollowed := true, recurses := true, apart := false }
def AgendaCarriesSaid : Prop := agendaCarriesRow.holds Try.pinned (OpenSpec.ofChange agendaCarriesSpec)

/-- ITS FALSE NEIGHBOUR: 'it returns false'. Refute it at one input. -/
def agendaCarriesWrong : ChangeSpec := { name := "agendaCarries", fn := fun _ => fun
  | [d1, d2, d3] => { results := [.lit (.bool false)], args := [d1, d2, d3] }
  | _ => none }
def AgendaCarriesWrongFalsely : Prop := agendaCarriesRow.holds Try.pinned (OpenSpec.ofChange agendaCarriesWrong)

/-- 'althinglaw9.AgendaOrder': WHATEVER THE INPUT: true; the input reads as it did. -/
def agendaOrderSpec : ChangeSpec := { name := "agendaOrder", fn := fun _ => fun
  | [d1, d2] => { results := [.lit (.bool true)], args := [d1, d2] }
  | _ => none }
def agendaOrderRow : OpenClaim := { program := "ytbfecgncndaodaa", sum := "0458d57509a737afefa0d583bbd257e505575321f2d74408963032ab26824f1d", func := "althing/althinglaw9.AgendaOrder", spec := "agendaOrder", inPlace := ["slices.overlaps[althing/api.Task]"], unfollowed := true, recurses := true, apart := false }
def AgendaOrderSaid : Prop := agendaOrderRow.holds Try.pinned (OpenSpec.ofChange agendaOrderSpec)

/-- ITS FALSE NEIGHBOUR: 'it returns false'. Refute it at one input. -/
def agendaOrderWrong : ChangeSpec := { name := "agendaOrder", fn := fun _ => fun
  | [d1, d2] => { results := [.lit (.bool false)], args := [d1, d2] }
  | _ => none }
def AgendaOrderWrongFalsely : Prop := agendaOrderRow.holds Try.pinned (OpenSpec.ofChange agendaOrderWrong)

/-- 'althinglaw9.AgendaNames': WHATEVER THE INPUT: true; the input reads as it did. -/
def agendaNamesSpec : ChangeSpec := { name := "agendaNames", fn := fun _ => fun
  | [d1, d2, d3] => { results := [.lit (.bool true)], args := [d1, d2, d3] }
  | _ => none }
def agendaNamesRow : OpenClaim := { program := "ytbfecgncndaodaa", sum := "0458d57509a737afefa0d583bbd257e505575321f2d74408963032ab26824f1d", func := "althing/althinglaw9.AgendaNames", spec := "agendaNames", inPlace := ["slices.overlaps[althing/api.Task]"], unfollowed := true, recurses := true, apart := false }
def AgendaNamesSaid : Prop := agendaNamesRow.holds Try.pinned (OpenSpec.ofChange agendaNamesSpec)

/-- ITS FALSE NEIGHBOUR: 'it returns false'. Refute it at one input. -/
def agendaNamesWrong : ChangeSpec := { name := "agendaNames", fn := fun _ => fun
  | [d1, d2, d3] => { results := [.lit (.bool false)], args := [d1, d2, d3] }
  | _ => none }
def AgendaNamesWrongFalsely : Prop := agendaNamesRow.holds Try.pinned (OpenSpec.ofChange agendaNamesWrong)

/-- 'althinglaw9.AgendaPlays': WHATEVER THE INPUT: true; the input reads as it did. -/
def agendaPlaysSpec : ChangeSpec := { name := "agendaPlays", fn := fun _ => fun
  | [d] => { results := [.lit (.bool true)], args := [d] }
  | _ => none }
def agendaPlaysRow : OpenClaim := { program := "ytbfecgncndaodaa", sum := "0458d57509a737afefa0d583bbd257e505575321f2d74408963032ab26824f1d", func := "althing/althinglaw9.AgendaPlays", spec := "agendaPlays", inPlace := ["slices.overlaps[althing/api.Task]"], unfollowed := true, recurses := true, apart := false }
def AgendaPlaysSaid : Prop := agendaPlaysRow.holds Try.pinned (OpenSpec.ofChange agendaPlaysSpec)

/-- ITS FALSE NEIGHBOUR: 'it returns false'. Refute it at one input. -/
def agendaPlaysWrong : ChangeSpec := { name := "agendaPlays", fn := fun _ => fun
  | [d] => { results := [.lit (.bool false)], args := [d] }
  | _ => none }
def AgendaPlaysWrongFalsely : Prop := agendaPlaysRow.holds Try.pinned (OpenSpec.ofChange agendaPlaysWrong)

/-- 'althinglaw9.AgendaMeanwhile': WHATEVER THE INPUT: true; the input reads as it did. -/
def agendaMeanwhileSpec : ChangeSpec := { name := "agendaMeanwhile", fn := fun _ => fun
  | [d1, d2] => { results := [.lit (.bool true)], args := [d1, d2] }
  | _ => none }
def agendaMeanwhileRow : OpenClaim := { program := "ytbfecgncndaodaa", sum := "0458d57509a737afefa0d583bbd257e505575321f2d74408963032ab26824f1d", func := "althing/althinglaw9.AgendaMeanwhile", spec := "agendaMeanwhile", inPlace := ["slices.overlaps[althing/api.Task]"], unfollowed := true, recurses := true, apart := false }
def AgendaMeanwhileSaid : Prop := agendaMeanwhileRow.holds Try.pinned (OpenSpec.ofChange agendaMeanwhileSpec)

/-- ITS FALSE NEIGHBOUR: 'it returns false'. Refute it at one input. -/
def agendaMeanwhileWrong : ChangeSpec := { name := "agendaMeanwhile", fn := fun _ => fun
  | [d1, d2] => { results := [.lit (.bool false)], args := [d1, d2] }
  | _ => none }
def AgendaMeanwhileWrongFalsely : Prop := agendaMeanwhileRow.holds Try.pinned (OpenSpec.ofChange agendaMeanwhileWrong)

/-- 'althinglaw9.AgendaOfNothing': WHATEVER THE INPUT: true; the input reads as it did. -/
def agendaOfNothingSpec : ChangeSpec := { name := "agendaOfNothing", fn := fun _ => fun
  | [d1, d2] => { results := [.lit (.bool true)], args := [d1, d2] }
  | _ => none }
def agendaOfNothingRow : OpenClaim := { program := "ytbfecgncndaodaa", sum := "0458d57509a737afefa0d583bbd257e505575321f2d74408963032ab26824f1d", func := "althing/althinglaw9.AgendaOfNothing", spec := "agendaOfNothing", inPlace := ["slices.overlaps[althing/api.Task]"], unfollowed := true, recurses := true, apart := false }
def AgendaOfNothingSaid : Prop := agendaOfNothingRow.holds Try.pinned (OpenSpec.ofChange agendaOfNothingSpec)

/-- ITS FALSE NEIGHBOUR: 'it returns false'. Refute it at one input. -/
def agendaOfNothingWrong : ChangeSpec := { name := "agendaOfNothing", fn := fun _ => fun
  | [d1, d2] => { results := [.lit (.bool false)], args := [d1, d2] }
  | _ => none }
def AgendaOfNothingWrongFalsely : Prop := agendaOfNothingRow.holds Try.pinned (OpenSpec.ofChange agendaOfNothingWrong)

/- THE SECOND FORM. 'bulk': how many values and letters a reading holds, each counted each time it is reached (what is shared counts as often as it is met; a slice's spare places count too). A statement '..UptoSaid' is the law's where the arguments, and the package variables that the reading takes, are together of bulk at most 1048576: NARROWER than '..Said'. Prove '..Said' where nothing that the law and all that it calls make is longer than what came in: it says more and counts as full. Else prove '..UptoSaid'. A law counts once. -/
mutual
def uptoBulk {H : Type} : DataW H → Nat
  | .lit (.string bytes) => bytes.length + 1
  | .lit _ => 1
  | .nil => 1
  | .ptr d => uptoBulk d + 1
  | .slice elems spare => uptoBulkAll elems + uptoBulkAll spare + 1
  | .agg parts => uptoBulkAll parts + 1
  | .iface _ d => uptoBulk d + 1
  | .map entries => uptoBulkEntries entries + 1
  | .held _ => 1
def uptoBulkAll {H : Type} : List (DataW H) → Nat
  | [] => 0
  | d :: r => uptoBulk d + uptoBulkAll r
def uptoBulkEntries {H : Type} : List (Lit × DataW H) → Nat
  | [] => 0
  | x :: r => uptoBulkEntry x + uptoBulkEntries r
def uptoBulkEntry {H : Type} : Lit × DataW H → Nat
  | (.string bytes, d) => bytes.length + uptoBulk d + 1
  | (_, d) => uptoBulk d + 1
 end
def uptoSmall : (H : Type) → List (DataW H) → Bool := fun _ ds => decide (uptoBulkAll ds ≤ 1048576)
def OpenSpec.upto (s : _root_.Go.ChangeSpec) : _root_.Go.OpenSpec := { _root_.Go.OpenSpec.ofChange s with cond := some uptoSmall }

/-- 'althinglaw9.AgendaDue', WHERE WHAT IT READS IS OF BULK AT MOST 1048576: true; the input reads as it did. -/
def agendaDueUptoRow : OpenClaim := { program := "ytbfecgncndaodaa", sum := "0458d57509a737afefa0d583bbd257e505575321f2d74408963032ab26824f1d", func := "althing/althinglaw9.AgendaDue", spec := "agendaDue", inPlace := ["slices.overlaps[althing/api.Task]"], unfollowed := true, recurses := true, apart := false, narrowed := true }
def AgendaDueUptoSaid : Prop := agendaDueUptoRow.holds Try.pinned (OpenSpec.upto agendaDueSpec)

/-- 'althinglaw9.AgendaFull', WHERE WHAT IT READS IS OF BULK AT MOST 1048576: true; the input reads as it did. -/
def agendaFullUptoRow : OpenClaim := { program := "ytbfecgncndaodaa", sum := "0458d57509a737afefa0d583bbd257e505575321f2d74408963032ab26824f1d", func := "althing/althinglaw9.AgendaFull", spec := "agendaFull", inPlace := ["slices.overlaps[althing/api.Task]"], unfollowed := true, recurses := true, apart := false, narrowed := true }
def AgendaFullUptoSaid : Prop := agendaFullUptoRow.holds Try.pinned (OpenSpec.upto agendaFullSpec)

/-- 'althinglaw9.AgendaCarries', WHERE WHAT IT READS IS OF BULK AT MOST 1048576: true; the input reads as it did. -/
def agendaCarriesUptoRow : OpenClaim := { program := "ytbfecgncndaodaa", sum := "0458d57509a737afefa0d583bbd257e505575321f2d74408963032ab26824f1d", func := "althing/althinglaw9.AgendaCarries", spec := "agendaCarries", inPlace := ["slices.overlaps[althing/api.Task]"], unfollowed := true, recurses := true, apart := false, narrowed := true }
def AgendaCarriesUptoSaid : Prop := agendaCarriesUptoRow.holds Try.pinned (OpenSpec.upto agendaCarriesSpec)

/-- 'althinglaw9.AgendaOrder', WHERE WHAT IT READS IS OF BULK AT MOST 1048576: true; the input reads as it did. -/
def agendaOrderUptoRow : OpenClaim := { program := "ytbfecgncndaodaa", sum := "0458d57509a737afefa0d583bbd257e505575321f2d74408963032ab26824f1d", func := "althing/althinglaw9.AgendaOrder", spec := "agendaOrder", inPlace := ["slices.overlaps[althing/api.Task]"], unfollowed := true, recurses := true, apart := false, narrowed := true }
def AgendaOrderUptoSaid : Prop := agendaOrderUptoRow.holds Try.pinned (OpenSpec.upto agendaOrderSpec)

/-- 'althinglaw9.AgendaNames', WHERE WHAT IT READS IS OF BULK AT MOST 1048576: true; the input reads as it did. -/
def agendaNamesUptoRow : OpenClaim := { program := "ytbfecgncndaodaa", sum := "0458d57509a737afefa0d583bbd257e505575321f2d74408963032ab26824f1d", func := "althing/althinglaw9.AgendaNames", spec := "agendaNames", inPlace := ["slices.overlaps[althing/api.Task]"], unfollowed := true, recurses := true, apart := false, narrowed := true }
def AgendaNamesUptoSaid : Prop := agendaNamesUptoRow.holds Try.pinned (OpenSpec.upto agendaNamesSpec)

/-- 'althinglaw9.AgendaPlays', WHERE WHAT IT READS IS OF BULK AT MOST 1048576: true; the input reads as it did. -/
def agendaPlaysUptoRow : OpenClaim := { program := "ytbfecgncndaodaa", sum := "0458d57509a737afefa0d583bbd257e505575321f2d74408963032ab26824f1d", func := "althing/althinglaw9.AgendaPlays", spec := "agendaPlays", inPlace := ["slices.overlaps[althing/api.Task]"], unfollowed := true, recurses := true, apart := false, narrowed := true }
def AgendaPlaysUptoSaid : Prop := agendaPlaysUptoRow.holds Try.pinned (OpenSpec.upto agendaPlaysSpec)

/-- 'althinglaw9.AgendaMeanwhile', WHERE WHAT IT READS IS OF BULK AT MOST 1048576: true; the input reads as it did. -/
def agendaMeanwhileUptoRow : OpenClaim := { program := "ytbfecgncndaodaa", sum := "0458d57509a737afefa0d583bbd257e505575321f2d74408963032ab26824f1d", func := "althing/althinglaw9.AgendaMeanwhile", spec := "agendaMeanwhile", inPlace := ["slices.overlaps[althing/api.Task]"], unfollowed := true, recurses := true, apart := false, narrowed := true }
def AgendaMeanwhileUptoSaid : Prop := agendaMeanwhileUptoRow.holds Try.pinned (OpenSpec.upto agendaMeanwhileSpec)

/-- 'althinglaw9.AgendaOfNothing', WHERE WHAT IT READS IS OF BULK AT MOST 1048576: true; the input reads as it did. -/
def agendaOfNothingUptoRow : OpenClaim := { program := "ytbfecgncndaodaa", sum := "0458d57509a737afefa0d583bbd257e505575321f2d74408963032ab26824f1d", func := "althing/althinglaw9.AgendaOfNothing", spec := "agendaOfNothing", inPlace := ["slices.overlaps[althing/api.Task]"], unfollowed := true, recurses := true, apart := false, narrowed := true }
def AgendaOfNothingUptoSaid : Prop := agendaOfNothingUptoRow.holds Try.pinned (OpenSpec.upto agendaOfNothingSpec)

end Rows
end Go.Proofs.Ytbfecgncndaodaa
