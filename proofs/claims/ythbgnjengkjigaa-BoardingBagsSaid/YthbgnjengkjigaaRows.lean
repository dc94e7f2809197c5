/-
  No cell of these rows narrows 'for every input' (looked for: loops, veiled, ifaces, maps, wideKeys, modest, calm, conditions, laid).
  DERIVED. THE GIVEN ROWS OF THIS SEAT. 4 by the template 'for every input the law returns true; each argument reads behind the call as it read before'; 0 by the template 'total and deterministic' (their statements: YthbgnjengkjigaaTotals.lean).
  GIVEN WITH THE SEED: the statements are not yours to turn. If you find one false, say at which input.
  Laid BY PROGRAM, IN A SANDBOX (cutbox-rows.mjs): the forced cells as the released guide's own fill.sh prints them over the translation b662ca36c60c8701… (all of the seat's roots in one cut). By AI agents, Wed Nov 11 2026. No macro, syntax, notation, axiom, sorry.
-/
import Derived.Test.YthbgnjengkjigaaChecked
import GoSem.Claim
import GoSem.ClaimJoined
import GoSem.ClaimMapViews
import Derived.JoinedTies
import Derived.KernelRfl
namespace Go.Proofs.Ythbgnjengkjigaa
/- THE CELL 'sum', in the pinned program and in every row, IS THE sha256 OF THE DUMP (.gsa) THAT YthbgnjengkjigaaProg.lean LOADS. Nothing in Lean hashes anything: it is a label: what it is worth is what the hold of that sum in a sandbox is worth. -/
noncomputable def Try.pinned : Pinned := { name := "ythbgnjengkjigaa", sum := "b662ca36c60c87015bac850fa891ae547b55489ad4fc33c51529f3f13f29a226", checked := Try.checked }
namespace Rows
def none {H : Type} : Left H := { results := [], args := [] }

/-- 'airlinelaw50.BoardingZones': WHATEVER THE INPUT: true; the input reads as it did. -/
def boardingZonesSpec : ChangeSpec := { name := "boardingZones", fn := fun _ => fun
  | [d1, d2] => { results := [.lit (.bool true)], args := [d1, d2] }
  | _ => none }
def boardingZonesRow : OpenClaim := { program := "ythbgnjengkjigaa", sum := "b662ca36c60c87015bac850fa891ae547b55489ad4fc33c51529f3f13f29a226", func := "airline/airlinelaw50.BoardingZones", spec := "boardingZones", unfollowed := true, recurses := true, apart := false }
def BoardingZonesSaid : Prop := boardingZonesRow.holds Try.pinned (OpenSpec.ofChange boardingZonesSpec)

/-- ITS FALSE NEIGHBOUR: 'it returns false'. Refute it at one input. -/
def boardingZonesWrong : ChangeSpec := { name := "boardingZones", fn := fun _ => fun
  | [d1, d2] => { results := [.lit (.bool false)], args := [d1, d2] }
  | _ => none }
def BoardingZonesWrongFalsely : Prop := boardingZonesRow.holds Try.pinned (OpenSpec.ofChange boardingZonesWrong)

/-- 'airlinelaw50.BoardingRuns': WHATEVER THE INPUT: true; the input reads as it did. -/
def boardingRunsSpec : ChangeSpec := { name := "boardingRuns", fn := fun _ => fun
  | [d1, d2, d3] => { results := [.lit (.bool true)], args := [d1, d2, d3] }
  | _ => none }
def boardingRunsRow : OpenClaim := { program := "ythbgnjengkjigaa", sum := "b662ca36c60c87015bac850fa891ae547b55489ad4fc33c51529f3f13f29a226", func := "airline/airlinelaw50.BoardingRuns", spec := "boardingRuns", unfollowed := true, recurses := true, apart := false }
def BoardingRunsSaid : Prop := boardingRunsRow.holds Try.pinned (OpenSpec.ofChange boardingRunsSpec)

/-- ITS FALSE NEIGHBOUR: 'it returns false'. Refute it at one input. -/
def boardingRunsWrong : ChangeSpec := { name := "boardingRuns", fn := fun _ => fun
  | [d1, d2, d3] => { results := [.lit (.bool false)], args := [d1, d2, d3] }
  | _ => none }
def BoardingRunsWrongFalsely : Prop := boardingRunsRow.holds Try.pinned (OpenSpec.ofChange boardingRunsWrong)

/-- 'airlinelaw50.BoardingNil': WHATEVER THE INPUT: true; the input reads as it did. -/
def boardingNilSpec : ChangeSpec := { name := "boardingNil", fn := fun _ => fun
  | [d] => { results := [.lit (.bool true)], args := [d] }
  | _ => none }
def boardingNilRow : OpenClaim := { program := "ythbgnjengkjigaa", sum := "b662ca36c60c87015bac850fa891ae547b55489ad4fc33c51529f3f13f29a226", func := "airline/airlinelaw50.BoardingNil", spec := "boardingNil", unfollowed := true, recurses := true, apart := false }
def BoardingNilSaid : Prop := boardingNilRow.holds Try.pinned (OpenSpec.ofChange boardingNilSpec)

/-- ITS FALSE NEIGHBOUR: 'it returns false'. Refute it at one input. -/
def boardingNilWrong : ChangeSpec := { name := "boardingNil", fn := fun _ => fun
  | [d] => { results := [.lit (.bool false)], args := [d] }
  | _ => none }
def BoardingNilWrongFalsely : Prop := boardingNilRow.holds Try.pinned (OpenSpec.ofChange boardingNilWrong)

/-- 'airlinelaw50.BoardingBags': WHATEVER THE INPUT: true; the input reads as it did. -/
def boardingBagsSpec : ChangeSpec := { name := "boardingBags", fn := fun _ => fun
  | [d1, d2, d3] => { results := [.lit (.bool true)], args := [d1, d2, d3] }
  | _ => none }
def boardingBagsRow : OpenClaim := { program := "ythbgnjengkjigaa", sum := "b662ca36c60c87015bac850fa891ae547b55489ad4fc33c51529f3f13f29a226", func := "airline/airlinelaw50.BoardingBags", spec := "boardingBags", unfollowed := true, recurses := true, apart := false }
def BoardingBagsSaid : Prop := boardingBagsRow.holds Try.pinned (OpenSpec.ofChange boardingBagsSpec)

/-- ITS FALSE NEIGHBOUR: 'it returns false'. Refute it at one input. -/
def boardingBagsWrong : ChangeSpec := { name := "boardingBags", fn := fun _ => fun
  | [d1, d2, d3] => { results := [.lit (.bool false)], args := [d1, d2, d3] }
  | _ => none }
def BoardingBagsWrongFalsely : Prop := boardingBagsRow.holds Try.pinned (OpenSpec.ofChange boardingBagsWrong)

/- THE SECOND FORM. 'bulk': how many values and letters a reading holds, each counted each time it is reached (what is shared counts as often as it is met; a slice's spare places count too). A statement '..UptoSaid' is the law's where the arguments, and the package variables that the reading takes, are together of bulk at most 1048576: NARROWER than '..Said'. Prove '..Said' where nothing that the law and all that it calls make is longer than what came in: it says more and counts as full. Else prove '..UptoSaid'. A law counts once. -/
mutual
def uptoBulk {H : Type} : DataW H → Nat
  | .lit (.string bytes) => bytes.length + 1
  | .lit _ => 1
  | .nil => 1
  | .ptr d => uptoBulk d + 1
  | .slice elems spare => uptoBulkAll elems + uptoBulkAll spare + 1
  | .agg parts => uptoBulkAll parts + 1
  | .iface _ d => uptoBulk d + 1
  | .map entries => uptoBulkEntries entries + 1
  | .held _ => 1
def uptoBulkAll {H : Type} : List (DataW H) → Nat
  | [] => 0
  | d :: r => uptoBulk d + uptoBulkAll r
def uptoBulkEntries {H : Type} : List (Lit × DataW H) → Nat
  | [] => 0
  | x :: r => uptoBulkEntry x + uptoBulkEntries r
def uptoBulkEntry {H : Type} : Lit × DataW H → Nat
  | (.string bytes, d) => bytes.length + uptoBulk d + 1
  | (_, d) => uptoBulk d + 1
 end
def uptoSmall : (H : Type) → List (DataW H) → Bool := fun _ ds => decide (uptoBulkAll ds ≤ 1048576)
def OpenSpec.upto (s : _root_.Go.ChangeSpec) : _root_.Go.OpenSpec := { _root_.Go.OpenSpec.ofChange s with cond := some uptoSmall }

/-- 'airlinelaw50.BoardingZones', WHERE WHAT IT READS IS OF BULK AT MOST 1048576: true; the input reads as it did. -/
def boardingZonesUptoRow : OpenClaim := { program := "ythbgnjengkjigaa", sum := "b662ca36c60c87015bac850fa891ae547b55489ad4fc33c51529f3f13f29a226", func := "airline/airlinelaw50.BoardingZones", spec := "boardingZones", unfollowed := true, recurses := true, apart := false, narrowed := true }
def BoardingZonesUptoSaid : Prop := boardingZonesUptoRow.holds Try.pinned (OpenSpec.upto boardingZonesSpec)

/-- 'airlinelaw50.BoardingRuns', WHERE WHAT IT READS IS OF BULK AT MOST 1048576: true; the input reads as it did. -/
def boardingRunsUptoRow : OpenClaim := { program := "ythbgnjengkjigaa", sum := "b662ca36c60c87015bac850fa891ae547b55489ad4fc33c51529f3f13f29a226", func := "airline/airlinelaw50.BoardingRuns", spec := "boardingRuns", unfollowed := true, recurses := true, apart := false, narrowed := true }
def BoardingRunsUptoSaid : Prop := boardingRunsUptoRow.holds Try.pinned (OpenSpec.upto boardingRunsSpec)

/-- 'airlinelaw50.BoardingNil', WHERE WHAT IT READS IS OF BULK AT MOST 1048576: true; the input reads as it did. -/
def boardingNilUptoRow : OpenClaim := { program := "ythbgnjengkjigaa", sum := "b662ca36c60c87015bac850fa891ae547b55489ad4fc33c51529f3f13f29a226", func := "airline/airlinelaw50.BoardingNil", spec := "boardingNil", unfollowed := true, recurses := true, apart := false, narrowed := true }
def BoardingNilUptoSaid : Prop := boardingNilUptoRow.holds Try.pinned (OpenSpec.upto boardingNilSpec)

/-- 'airlinelaw50.BoardingBags', WHERE WHAT IT READS IS OF BULK AT MOST 1048576: true; the input reads as it did. -/
def boardingBagsUptoRow : OpenClaim := { program := "ythbgnjengkjigaa", sum := "b662ca36c60c87015bac850fa891ae547b55489ad4fc33c51529f3f13f29a226", func := "airline/airlinelaw50.BoardingBags", spec := "boardingBags", unfollowed := true, recurses := true, apart := false, narrowed := true }
def BoardingBagsUptoSaid : Prop := boardingBagsUptoRow.holds Try.pinned (OpenSpec.upto boardingBagsSpec)

end Rows
end Go.Proofs.Ythbgnjengkjigaa
