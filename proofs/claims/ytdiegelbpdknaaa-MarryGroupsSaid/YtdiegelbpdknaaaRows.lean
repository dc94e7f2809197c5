/-
  No cell of these rows narrows 'for every input' (looked for: loops, veiled, ifaces, maps, wideKeys, modest, calm, conditions, laid).
  DERIVED. THE GIVEN ROWS OF THIS SEAT. 4 by the template 'for every input the law returns true; each argument reads behind the call as it read before'; 0 by the template 'total and deterministic' (their statements: YtdiegelbpdknaaaTotals.lean).
  GIVEN WITH THE SEED: the statements are not yours to turn. If you find one false, say at which input.
  Laid BY PROGRAM, IN A SANDBOX (cutbox-rows.mjs): the forced cells as the released guide's own fill.sh prints them over the translation 7f993b9c868ca572… (all of the seat's roots in one cut). By AI agents, Wed Nov 11 2026. No macro, syntax, notation, axiom, sorry.
-/
import Derived.Test.YtdiegelbpdknaaaChecked
import GoSem.Claim
import GoSem.ClaimJoined
import GoSem.ClaimMapViews
import Derived.JoinedTies
import Derived.KernelRfl
namespace Go.Proofs.Ytdiegelbpdknaaa
/- THE CELL 'sum', in the pinned program and in every row, IS THE sha256 OF THE DUMP (.gsa) THAT YtdiegelbpdknaaaProg.lean LOADS. Nothing in Lean hashes anything: it is a label: what it is worth is what the hold of that sum in a sandbox is worth. -/
noncomputable def Try.pinned : Pinned := { name := "ytdiegelbpdknaaa", sum := "7f993b9c868ca572ab62901d9bc836b8f7c2e505b9b2b95d8cc26898fe8f51ea", checked := Try.checked }
namespace Rows
def none {H : Type} : Left H := { results := [], args := [] }

/-- 'airlinelaw17.MarryTells': WHATEVER THE INPUT: true; the input reads as it did. -/
def marryTellsSpec : ChangeSpec := { name := "marryTells", fn := fun _ => fun
  | [d1, d2] => { results := [.lit (.bool true)], args := [d1, d2] }
  | _ => none }
def marryTellsRow : OpenClaim := { program := "ytdiegelbpdknaaa", sum := "7f993b9c868ca572ab62901d9bc836b8f7c2e505b9b2b95d8cc26898fe8f51ea", func := "airline/airlinelaw17.MarryTells", spec := "marryTells", unfollowed := true, recurses := true, apart := false }
def MarryTellsSaid : Prop := marryTellsRow.holds Try.pinned (OpenSpec.ofChange marryTellsSpec)

/-- ITS FALSE NEIGHBOUR: 'it returns false'. Refute it at one input. -/
def marryTellsWrong : ChangeSpec := { name := "marryTells", fn := fun _ => fun
  | [d1, d2] => { results := [.lit (.bool false)], args := [d1, d2] }
  | _ => none }
def MarryTellsWrongFalsely : Prop := marryTellsRow.holds Try.pinned (OpenSpec.ofChange marryTellsWrong)

/-- 'airlinelaw17.MarryJoins': WHATEVER THE INPUT: true; the input reads as it did. -/
def marryJoinsSpec : ChangeSpec := { name := "marryJoins", fn := fun _ => fun
  | [d1, d2, d3] => { results := [.lit (.bool true)], args := [d1, d2, d3] }
  | _ => none }
def marryJoinsRow : OpenClaim := { program := "ytdiegelbpdknaaa", sum := "7f993b9c868ca572ab62901d9bc836b8f7c2e505b9b2b95d8cc26898fe8f51ea", func := "airline/airlinelaw17.MarryJoins", spec := "marryJoins", unfollowed := true, recurses := true, apart := false }
def MarryJoinsSaid : Prop := marryJoinsRow.holds Try.pinned (OpenSpec.ofChange marryJoinsSpec)

/-- ITS FALSE NEIGHBOUR: 'it returns false'. Refute it at one input. -/
def marryJoinsWrong : ChangeSpec := { name := "marryJoins", fn := fun _ => fun
  | [d1, d2, d3] => { results := [.lit (.bool false)], args := [d1, d2, d3] }
  | _ => none }
def MarryJoinsWrongFalsely : Prop := marryJoinsRow.holds Try.pinned (OpenSpec.ofChange marryJoinsWrong)

/-- 'airlinelaw17.MarryParts': WHATEVER THE INPUT: true; the input reads as it did. -/
def marryPartsSpec : ChangeSpec := { name := "marryParts", fn := fun _ => fun
  | [d1, d2, d3] => { results := [.lit (.bool true)], args := [d1, d2, d3] }
  | _ => none }
def marryPartsRow : OpenClaim := { program := "ytdiegelbpdknaaa", sum := "7f993b9c868ca572ab62901d9bc836b8f7c2e505b9b2b95d8cc26898fe8f51ea", func := "airline/airlinelaw17.MarryParts", spec := "marryParts", unfollowed := true, recurses := true, apart := false }
def MarryPartsSaid : Prop := marryPartsRow.holds Try.pinned (OpenSpec.ofChange marryPartsSpec)

/-- ITS FALSE NEIGHBOUR: 'it returns false'. Refute it at one input. -/
def marryPartsWrong : ChangeSpec := { name := "marryParts", fn := fun _ => fun
  | [d1, d2, d3] => { results := [.lit (.bool false)], args := [d1, d2, d3] }
  | _ => none }
def MarryPartsWrongFalsely : Prop := marryPartsRow.holds Try.pinned (OpenSpec.ofChange marryPartsWrong)

/-- 'airlinelaw17.MarryGroups': WHATEVER THE INPUT: true; the input reads as it did. -/
def marryGroupsSpec : ChangeSpec := { name := "marryGroups", fn := fun _ => fun
  | [d] => { results := [.lit (.bool true)], args := [d] }
  | _ => none }
def marryGroupsRow : OpenClaim := { program := "ytdiegelbpdknaaa", sum := "7f993b9c868ca572ab62901d9bc836b8f7c2e505b9b2b95d8cc26898fe8f51ea", func := "airline/airlinelaw17.MarryGroups", spec := "marryGroups", unfollowed := true, recurses := true, apart := false }
def MarryGroupsSaid : Prop := marryGroupsRow.holds Try.pinned (OpenSpec.ofChange marryGroupsSpec)

/-- ITS FALSE NEIGHBOUR: 'it returns false'. Refute it at one input. -/
def marryGroupsWrong : ChangeSpec := { name := "marryGroups", fn := fun _ => fun
  | [d] => { results := [.lit (.bool false)], args := [d] }
  | _ => none }
def MarryGroupsWrongFalsely : Prop := marryGroupsRow.holds Try.pinned (OpenSpec.ofChange marryGroupsWrong)

/- THE SECOND FORM. 'bulk': how many values and letters a reading holds, each counted each time it is reached (what is shared counts as often as it is met; a slice's spare places count too). A statement '..UptoSaid' is the law's where the arguments, and the package variables that the reading takes, are together of bulk at most 1048576: NARROWER than '..Said'. Prove '..Said' where nothing that the law and all that it calls make is longer than what came in: it says more and counts as full. Else prove '..UptoSaid'. A law counts once. -/
mutual
def uptoBulk {H : Type} : DataW H → Nat
  | .lit (.string bytes) => bytes.length + 1
  | .lit _ => 1
  | .nil => 1
  | .ptr d => uptoBulk d + 1
  | .slice elems spare => uptoBulkAll elems + uptoBulkAll spare + 1
  | .agg parts => uptoBulkAll parts + 1
  | .iface _ d => uptoBulk d + 1
  | .map entries => uptoBulkEntries entries + 1
  | .held _ => 1
def uptoBulkAll {H : Type} : List (DataW H) → Nat
  | [] => 0
  | d :: r => uptoBulk d + uptoBulkAll r
def uptoBulkEntries {H : Type} : List (Lit × DataW H) → Nat
  | [] => 0
  | x :: r => uptoBulkEntry x + uptoBulkEntries r
def uptoBulkEntry {H : Type} : Lit × DataW H → Nat
  | (.string bytes, d) => bytes.length + uptoBulk d + 1
  | (_, d) => uptoBulk d + 1
 end
def uptoSmall : (H : Type) → List (DataW H) → Bool := fun _ ds => decide (uptoBulkAll ds ≤ 1048576)
def OpenSpec.upto (s : _root_.Go.ChangeSpec) : _root_.Go.OpenSpec := { _root_.Go.OpenSpec.ofChange s with cond := some uptoSmall }

/-- 'airlinelaw17.MarryTells', WHERE WHAT IT READS IS OF BULK AT MOST 1048576: true; the input reads as it did. -/
def marryTellsUptoRow : OpenClaim := { program := "ytdiegelbpdknaaa", sum := "7f993b9c868ca572ab62901d9bc836b8f7c2e505b9b2b95d8cc26898fe8f51ea", func := "airline/airlinelaw17.MarryTells", spec := "marryTells", unfollowed := true, recurses := true, apart := false, narrowed := true }
def MarryTellsUptoSaid : Prop := marryTellsUptoRow.holds Try.pinned (OpenSpec.upto marryTellsSpec)

/-- 'airlinelaw17.MarryJoins', WHERE WHAT IT READS IS OF BULK AT MOST 1048576: true; the input reads as it did. -/
def marryJoinsUptoRow : OpenClaim := { program := "ytdiegelbpdknaaa", sum := "7f993b9c868ca572ab62901d9bc836b8f7c2e505b9b2b95d8cc26898fe8f51ea", func := "airline/airlinelaw17.MarryJoins", spec := "marryJoins", unfollowed := true, recurses := true, apart := false, narrowed := true }
def MarryJoinsUptoSaid : Prop := marryJoinsUptoRow.holds Try.pinned (OpenSpec.upto marryJoinsSpec)

/-- 'airlinelaw17.MarryParts', WHERE WHAT IT READS IS OF BULK AT MOST 1048576: true; the input reads as it did. -/
def marryPartsUptoRow : OpenClaim := { program := "ytdiegelbpdknaaa", sum := "7f993b9c868ca572ab62901d9bc836b8f7c2e505b9b2b95d8cc26898fe8f51ea", func := "airline/airlinelaw17.MarryParts", spec := "marryParts", unfollowed := true, recurses := true, apart := false, narrowed := true }
def MarryPartsUptoSaid : Prop := marryPartsUptoRow.holds Try.pinned (OpenSpec.upto marryPartsSpec)

/-- 'airlinelaw17.MarryGroups', WHERE WHAT IT READS IS OF BULK AT MOST 1048576: true; the input reads as it did. -/
def marryGroupsUptoRow : OpenClaim := { program := "ytdiegelbpdknaaa", sum := "7f993b9c868ca572ab62901d9bc836b8f7c2e505b9b2b95d8cc26898fe8f51ea", func := "airline/airlinelaw17.MarryGroups", spec := "marryGroups", unfollowed := true, recurses := true, apart := false, narrowed := true }
def MarryGroupsUptoSaid : Prop := marryGroupsUptoRow.holds Try.pinned (OpenSpec.upto marryGroupsSpec)

end Rows
end Go.Proofs.Ytdiegelbpdknaaa
