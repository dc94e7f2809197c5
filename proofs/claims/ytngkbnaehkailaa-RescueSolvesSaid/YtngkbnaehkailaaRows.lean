/-
  No cell of these rows narrows 'for every input' (looked for: loops, veiled, ifaces, maps, wideKeys, modest, calm, conditions, laid).
  DERIVED. THE GIVEN ROWS OF THIS SEAT. 9 by the template 'for every input the law returns true; each argument reads behind the call as it read before'; 0 by the template 'total and deterministic' (their statements: YtngkbnaehkailaaTotals.lean).
  GIVEN WITH THE SEED: the statements are not yours to turn. If you find one false, say at which input.
  Laid BY PROGRAM, IN A SANDBOX (cutbox-rows.mjs): the forced cells as the released guide's own fill.sh prints them over the translation 77a071043e965398… (all of the seat's roots in one cut). By AI agents, Wed Nov 11 2026. No macro, syntax, notation, axiom, sorry.
-/
import Derived.Test.YtngkbnaehkailaaChecked
import GoSem.Claim
import GoSem.ClaimJoined
import GoSem.ClaimMapViews
import Derived.JoinedTies
import Derived.KernelRfl
namespace Go.Proofs.Ytngkbnaehkailaa
/- THE CELL 'sum', in the pinned program and in every row, IS THE sha256 OF THE DUMP (.gsa) THAT YtngkbnaehkailaaProg.lean LOADS. Nothing in Lean hashes anything: it is a label: what it is worth is what the hold of that sum in a sandbox is worth. -/
noncomputable def Try.pinned : Pinned := { name := "ytngkbnaehkailaa", sum := "77a071043e9653986447b3b57d823477afc5defd112fcb03f5f5a3dcbe32020c", checked := Try.checked }
namespace Rows
def none {H : Type} : Left H := { results := [], args := [] }

/-- 'airlinelaw51.FlowChecks': WHATEVER THE INPUT: true; the input reads as it did. -/
def flowChecksSpec : ChangeSpec := { name := "flowChecks", fn := fun _ => fun
  | [d] => { results := [.lit (.bool true)], args := [d] }
  | _ => none }
def flowChecksRow : OpenClaim := { program := "ytngkbnaehkailaa", sum := "77a071043e9653986447b3b57d823477afc5defd112fcb03f5f5a3dcbe32020c", func := "airline/airlinelaw51.FlowChecks", spec := "flowChecks", unfollowed := true, recurses := true, apart := false }
def FlowChecksSaid : Prop := flowChecksRow.holds Try.pinned (OpenSpec.ofChange flowChecksSpec)

/-- ITS FALSE NEIGHBOUR: 'it returns false'. Refute it at one input. -/
def flowChecksWrong : ChangeSpec := { name := "flowChecks", fn := fun _ => fun
  | [d] => { results := [.lit (.bool false)], args := [d] }
  | _ => none }
def FlowChecksWrongFalsely : Prop := flowChecksRow.holds Try.pinned (OpenSpec.ofChange flowChecksWrong)

/-- 'airlinelaw51.FlowValids': WHATEVER THE INPUT: true; the input reads as it did. -/
def flowValidsSpec : ChangeSpec := { name := "flowValids", fn := fun _ => fun
  | [d1, d2] => { results := [.lit (.bool true)], args := [d1, d2] }
  | _ => none }
def flowValidsRow : OpenClaim := { program := "ytngkbnaehkailaa", sum := "77a071043e9653986447b3b57d823477afc5defd112fcb03f5f5a3dcbe32020c", func := "airline/airlinelaw51.FlowValids", spec := "flowValids", unfollowed := true, recurses := true, apart := false }
def FlowValidsSaid : Prop := flowValidsRow.holds Try.pinned (OpenSpec.ofChange flowValidsSpec)

/-- ITS FALSE NEIGHBOUR: 'it returns false'. Refute it at one input. -/
def flowValidsWrong : ChangeSpec := { name := "flowValids", fn := fun _ => fun
  | [d1, d2] => { results := [.lit (.bool false)], args := [d1, d2] }
  | _ => none }
def FlowValidsWrongFalsely : Prop := flowValidsRow.holds Try.pinned (OpenSpec.ofChange flowValidsWrong)

/-- 'airlinelaw51.FlowSolves': WHATEVER THE INPUT: true; the input reads as it did. -/
def flowSolvesSpec : ChangeSpec := { name := "flowSolves", fn := fun _ => fun
  | [d1, d2] => { results := [.lit (.bool true)], args := [d1, d2] }
  | _ => none }
def flowSolvesRow : OpenClaim := { program := "ytngkbnaehkailaa", sum := "77a071043e9653986447b3b57d823477afc5defd112fcb03f5f5a3dcbe32020c", func := "airline/airlinelaw51.FlowSolves", spec := "flowSolves", unfollowed := true, recurses := true, apart := false }
def FlowSolvesSaid : Prop := flowSolvesRow.holds Try.pinned (OpenSpec.ofChange flowSolvesSpec)

/-- ITS FALSE NEIGHBOUR: 'it returns false'. Refute it at one input. -/
def flowSolvesWrong : ChangeSpec := { name := "flowSolves", fn := fun _ => fun
  | [d1, d2] => { results := [.lit (.bool false)], args := [d1, d2] }
  | _ => none }
def FlowSolvesWrongFalsely : Prop := flowSolvesRow.holds Try.pinned (OpenSpec.ofChange flowSolvesWrong)

/-- 'airlinelaw51.FlowBest': WHATEVER THE INPUT: true; the input reads as it did. -/
def flowBestSpec : ChangeSpec := { name := "flowBest", fn := fun _ => fun
  | [d1, d2, d3] => { results := [.lit (.bool true)], args := [d1, d2, d3] }
  | _ => none }
def flowBestRow : OpenClaim := { program := "ytngkbnaehkailaa", sum := "77a071043e9653986447b3b57d823477afc5defd112fcb03f5f5a3dcbe32020c", func := "airline/airlinelaw51.FlowBest", spec := "flowBest", unfollowed := true, recurses := true, apart := false }
def FlowBestSaid : Prop := flowBestRow.holds Try.pinned (OpenSpec.ofChange flowBestSpec)

/-- ITS FALSE NEIGHBOUR: 'it returns false'. Refute it at one input. -/
def flowBestWrong : ChangeSpec := { name := "flowBest", fn := fun _ => fun
  | [d1, d2, d3] => { results := [.lit (.bool false)], args := [d1, d2, d3] }
  | _ => none }
def FlowBestWrongFalsely : Prop := flowBestRow.holds Try.pinned (OpenSpec.ofChange flowBestWrong)

/-- 'airlinelaw51.FlowPrices': WHATEVER THE INPUT: true; the input reads as it did. -/
def flowPricesSpec : ChangeSpec := { name := "flowPrices", fn := fun _ => fun
  | [d1, d2, d3] => { results := [.lit (.bool true)], args := [d1, d2, d3] }
  | _ => none }
def flowPricesRow : OpenClaim := { program := "ytngkbnaehkailaa", sum := "77a071043e9653986447b3b57d823477afc5defd112fcb03f5f5a3dcbe32020c", func := "airline/airlinelaw51.FlowPrices", spec := "flowPrices", unfollowed := true, recurses := true, apart := false }
def FlowPricesSaid : Prop := flowPricesRow.holds Try.pinned (OpenSpec.ofChange flowPricesSpec)

/-- ITS FALSE NEIGHBOUR: 'it returns false'. Refute it at one input. -/
def flowPricesWrong : ChangeSpec := { name := "flowPrices", fn := fun _ => fun
  | [d1, d2, d3] => { results := [.lit (.bool false)], args := [d1, d2, d3] }
  | _ => none }
def FlowPricesWrongFalsely : Prop := flowPricesRow.holds Try.pinned (OpenSpec.ofChange flowPricesWrong)

/-- 'airlinelaw51.FlowProofs': WHATEVER THE INPUT: true; the input reads as it did. -/
def flowProofsSpec : ChangeSpec := { name := "flowProofs", fn := fun _ => fun
  | [d1, d2, d3, d4, d5] => { results := [.lit (.bool true)], args := [d1, d2, d3, d4, d5] }
  | _ => none }
def flowProofsRow : OpenClaim := { program := "ytngkbnaehkailaa", sum := "77a071043e9653986447b3b57d823477afc5defd112fcb03f5f5a3dcbe32020c", func := "airline/airlinelaw51.FlowProofs", spec := "flowProofs", unfollowed := true, recurses := true, apart := false }
def FlowProofsSaid : Prop := flowProofsRow.holds Try.pinned (OpenSpec.ofChange flowProofsSpec)

/-- ITS FALSE NEIGHBOUR: 'it returns false'. Refute it at one input. -/
def flowProofsWrong : ChangeSpec := { name := "flowProofs", fn := fun _ => fun
  | [d1, d2, d3, d4, d5] => { results := [.lit (.bool false)], args := [d1, d2, d3, d4, d5] }
  | _ => none }
def FlowProofsWrongFalsely : Prop := flowProofsRow.holds Try.pinned (OpenSpec.ofChange flowProofsWrong)

/-- 'airlinelaw52.RescueValid': WHATEVER THE INPUT: true; the input reads as it did. -/
def rescueValidSpec : ChangeSpec := { name := "rescueValid", fn := fun _ => fun
  | [d1, d2, d3] => { results := [.lit (.bool true)], args := [d1, d2, d3] }
  | _ => none }
def rescueValidRow : OpenClaim := { program := "ytngkbnaehkailaa", sum := "77a071043e9653986447b3b57d823477afc5defd112fcb03f5f5a3dcbe32020c", func := "airline/airlinelaw52.RescueValid", spec := "rescueValid", unfollowed := true, recurses := true, apart := false }
def RescueValidSaid : Prop := rescueValidRow.holds Try.pinned (OpenSpec.ofChange rescueValidSpec)

/-- ITS FALSE NEIGHBOUR: 'it returns false'. Refute it at one input. -/
def rescueValidWrong : ChangeSpec := { name := "rescueValid", fn := fun _ => fun
  | [d1, d2, d3] => { results := [.lit (.bool false)], args := [d1, d2, d3] }
  | _ => none }
def RescueValidWrongFalsely : Prop := rescueValidRow.holds Try.pinned (OpenSpec.ofChange rescueValidWrong)

/-- 'airlinelaw52.RescueBest': WHATEVER THE INPUT: true; the input reads as it did. -/
def rescueBestSpec : ChangeSpec := { name := "rescueBest", fn := fun _ => fun
  | [d1, d2, d3] => { results := [.lit (.bool true)], args := [d1, d2, d3] }
  | _ => none }
def rescueBestRow : OpenClaim := { program := "ytngkbnaehkailaa", sum := "77a071043e9653986447b3b57d823477afc5defd112fcb03f5f5a3dcbe32020c", func := "airline/airlinelaw52.RescueBest", spec := "rescueBest", unfollowed := true, recurses := true, apart := false }
def RescueBestSaid : Prop := rescueBestRow.holds Try.pinned (OpenSpec.ofChange rescueBestSpec)

/-- ITS FALSE NEIGHBOUR: 'it returns false'. Refute it at one input. -/
def rescueBestWrong : ChangeSpec := { name := "rescueBest", fn := fun _ => fun
  | [d1, d2, d3] => { results := [.lit (.bool false)], args := [d1, d2, d3] }
  | _ => none }
def RescueBestWrongFalsely : Prop := rescueBestRow.holds Try.pinned (OpenSpec.ofChange rescueBestWrong)

/-- 'airlinelaw52.RescueSolves': WHATEVER THE INPUT: true; the input reads as it did. -/
def rescueSolvesSpec : ChangeSpec := { name := "rescueSolves", fn := fun _ => fun
  | [d1, d2] => { results := [.lit (.bool true)], args := [d1, d2] }
  | _ => none }
def rescueSolvesRow : OpenClaim := { program := "ytngkbnaehkailaa", sum := "77a071043e9653986447b3b57d823477afc5defd112fcb03f5f5a3dcbe32020c", func := "airline/airlinelaw52.RescueSolves", spec := "rescueSolves", unfollowed := true, recurses := true, apart := false }
def RescueSolvesSaid : Prop := rescueSolvesRow.holds Try.pinned (OpenSpec.ofChange rescueSolvesSpec)

/-- ITS FALSE NEIGHBOUR: 'it returns false'. Refute it at one input. -/
def rescueSolvesWrong : ChangeSpec := { name := "rescueSolves", fn := fun _ => fun
  | [d1, d2] => { results := [.lit (.bool false)], args := [d1, d2] }
  | _ => none }
def RescueSolvesWrongFalsely : Prop := rescueSolvesRow.holds Try.pinned (OpenSpec.ofChange rescueSolvesWrong)

/- THE SECOND FORM. 'bulk': how many values and letters a reading holds, each counted each time it is reached (what is shared counts as often as it is met; a slice's spare places count too). A statement '..UptoSaid' is the law's where the arguments, and the package variables that the reading takes, are together of bulk at most 1048576: NARROWER than '..Said'. Prove '..Said' where nothing that the law and all that it calls make is longer than what came in: it says more and counts as full. Else prove '..UptoSaid'. A law counts once. -/
mutual
def uptoBulk {H : Type} : DataW H → Nat
  | .lit (.string bytes) => bytes.length + 1
  | .lit _ => 1
  | .nil => 1
  | .ptr d => uptoBulk d + 1
  | .slice elems spare => uptoBulkAll elems + uptoBulkAll spare + 1
  | .agg parts => uptoBulkAll parts + 1
  | .iface _ d => uptoBulk d + 1
  | .map entries => uptoBulkEntries entries + 1
  | .held _ => 1
def uptoBulkAll {H : Type} : List (DataW H) → Nat
  | [] => 0
  | d :: r => uptoBulk d + uptoBulkAll r
def uptoBulkEntries {H : Type} : List (Lit × DataW H) → Nat
  | [] => 0
  | x :: r => uptoBulkEntry x + uptoBulkEntries r
def uptoBulkEntry {H : Type} : Lit × DataW H → Nat
  | (.string bytes, d) => bytes.length + uptoBulk d + 1
  | (_, d) => uptoBulk d + 1
 end
def uptoSmall : (H : Type) → List (DataW H) → Bool := fun _ ds => decide (uptoBulkAll ds ≤ 1048576)
def OpenSpec.upto (s : _root_.Go.ChangeSpec) : _root_.Go.OpenSpec := { _root_.Go.OpenSpec.ofChange s with cond := some uptoSmall }

/-- 'airlinelaw51.FlowChecks', WHERE WHAT IT READS IS OF BULK AT MOST 1048576: true; the input reads as it did. -/
def flowChecksUptoRow : OpenClaim := { program := "ytngkbnaehkailaa", sum := "77a071043e9653986447b3b57d823477afc5defd112fcb03f5f5a3dcbe32020c", func := "airline/airlinelaw51.FlowChecks", spec := "flowChecks", unfollowed := true, recurses := true, apart := false, narrowed := true }
def FlowChecksUptoSaid : Prop := flowChecksUptoRow.holds Try.pinned (OpenSpec.upto flowChecksSpec)

/-- 'airlinelaw51.FlowValids', WHERE WHAT IT READS IS OF BULK AT MOST 1048576: true; the input reads as it did. -/
def flowValidsUptoRow : OpenClaim := { program := "ytngkbnaehkailaa", sum := "77a071043e9653986447b3b57d823477afc5defd112fcb03f5f5a3dcbe32020c", func := "airline/airlinelaw51.FlowValids", spec := "flowValids", unfollowed := true, recurses := true, apart := false, narrowed := true }
def FlowValidsUptoSaid : Prop := flowValidsUptoRow.holds Try.pinned (OpenSpec.upto flowValidsSpec)

/-- 'airlinelaw51.FlowSolves', WHERE WHAT IT READS IS OF BULK AT MOST 1048576: true; the input reads as it did. -/
def flowSolvesUptoRow : OpenClaim := { program := "ytngkbnaehkailaa", sum := "77a071043e9653986447b3b57d823477afc5defd112fcb03f5f5a3dcbe32020c", func := "airline/airlinelaw51.FlowSolves", spec := "flowSolves", unfollowed := true, recurses := true, apart := false, narrowed := true }
def FlowSolvesUptoSaid : Prop := flowSolvesUptoRow.holds Try.pinned (OpenSpec.upto flowSolvesSpec)

/-- 'airlinelaw51.FlowBest', WHERE WHAT IT READS IS OF BULK AT MOST 1048576: true; the input reads as it did. -/
def flowBestUptoRow : OpenClaim := { program := "ytngkbnaehkailaa", sum := "77a071043e9653986447b3b57d823477afc5defd112fcb03f5f5a3dcbe32020c", func := "airline/airlinelaw51.FlowBest", spec := "flowBest", unfollowed := true, recurses := true, apart := false, narrowed := true }
def FlowBestUptoSaid : Prop := flowBestUptoRow.holds Try.pinned (OpenSpec.upto flowBestSpec)

/-- 'airlinelaw51.FlowPrices', WHERE WHAT IT READS IS OF BULK AT MOST 1048576: true; the input reads as it did. -/
def flowPricesUptoRow : OpenClaim := { program := "ytngkbnaehkailaa", sum := "77a071043e9653986447b3b57d823477afc5defd112fcb03f5f5a3dcbe32020c", func := "airline/airlinelaw51.FlowPrices", spec := "flowPrices", unfollowed := true, recurses := true, apart := false, narrowed := true }
def FlowPricesUptoSaid : Prop := flowPricesUptoRow.holds Try.pinned (OpenSpec.upto flowPricesSpec)

/-- 'airlinelaw51.FlowProofs', WHERE WHAT IT READS IS OF BULK AT MOST 1048576: true; the input reads as it did. -/
def flowProofsUptoRow : OpenClaim := { program := "ytngkbnaehkailaa", sum := "77a071043e9653986447b3b57d823477afc5defd112fcb03f5f5a3dcbe32020c", func := "airline/airlinelaw51.FlowProofs", spec := "flowProofs", unfollowed := true, recurses := true, apart := false, narrowed := true }
def FlowProofsUptoSaid : Prop := flowProofsUptoRow.holds Try.pinned (OpenSpec.upto flowProofsSpec)

/-- 'airlinelaw52.RescueValid', WHERE WHAT IT READS IS OF BULK AT MOST 1048576: true; the input reads as it did. -/
def rescueValidUptoRow : OpenClaim := { program := "ytngkbnaehkailaa", sum := "77a071043e9653986447b3b57d823477afc5defd112fcb03f5f5a3dcbe32020c", func := "airline/airlinelaw52.RescueValid", spec := "rescueValid", unfollowed := true, recurses := true, apart := false, narrowed := true }
def RescueValidUptoSaid : Prop := rescueValidUptoRow.holds Try.pinned (OpenSpec.upto rescueValidSpec)

/-- 'airlinelaw52.RescueBest', WHERE WHAT IT READS IS OF BULK AT MOST 1048576: true; the input reads as it did. -/
def rescueBestUptoRow : OpenClaim := { program := "ytngkbnaehkailaa", sum := "77a071043e9653986447b3b57d823477afc5defd112fcb03f5f5a3dcbe32020c", func := "airline/airlinelaw52.RescueBest", spec := "rescueBest", unfollowed := true, recurses := true, apart := false, narrowed := true }
def RescueBestUptoSaid : Prop := rescueBestUptoRow.holds Try.pinned (OpenSpec.upto rescueBestSpec)

/-- 'airlinelaw52.RescueSolves', WHERE WHAT IT READS IS OF BULK AT MOST 1048576: true; the input reads as it did. -/
def rescueSolvesUptoRow : OpenClaim := { program := "ytngkbnaehkailaa", sum := "77a071043e9653986447b3b57d823477afc5defd112fcb03f5f5a3dcbe32020c", func := "airline/airlinelaw52.RescueSolves", spec := "rescueSolves", unfollowed := true, recurses := true, apart := false, narrowed := true }
def RescueSolvesUptoSaid : Prop := rescueSolvesUptoRow.holds Try.pinned (OpenSpec.upto rescueSolvesSpec)

end Rows
end Go.Proofs.Ytngkbnaehkailaa
