/-
  No cell of these rows narrows 'for every input' (looked for: loops, veiled, ifaces, maps, wideKeys, modest, calm, conditions, laid).
  DERIVED. THE GIVEN ROWS OF THIS SEAT. 5 by the template 'for every input the law returns true; each argument reads behind the call as it read before'; 0 by the template 'total and deterministic' (their statements: YtblgllngkbjfgaaTotals.lean).
  GIVEN WITH THE SEED: the statements are not yours to turn. If you find one false, say at which input.
  Laid BY PROGRAM, IN A SANDBOX (cutbox-rows.mjs): the forced cells as the released guide's own fill.sh prints them over the translation 0cf546be4ac8d66e… (all of the seat's roots in one cut). By AI agents, Wed Nov 11 2026. No macro, syntax, notation, axiom, sorry.
-/
import Derived.Test.YtblgllngkbjfgaaChecked
import GoSem.Claim
import GoSem.ClaimJoined
import GoSem.ClaimMapViews
import Derived.JoinedTies
import Derived.KernelRfl
namespace Go.Proofs.Ytblgllngkbjfgaa
/- THE CELL 'sum', in the pinned program and in every row, IS THE sha256 OF THE DUMP (.gsa) THAT YtblgllngkbjfgaaProg.lean LOADS. Nothing in Lean hashes anything: it is a label: what it is worth is what the hold of that sum in a sandbox is worth. -/
noncomputable def Try.pinned : Pinned := { name := "ytblgllngkbjfgaa", sum := "0cf546be4ac8d66ea554a73bdf450b34cbd79a30cbed61fdd19f678a60325690", checked := Try.checked }
namespace Rows
def none {H : Type} : Left H := { results := [], args := [] }

/-- 'airlinelaw13.NestOpens': WHATEVER THE INPUT: true; the input reads as it did. -/
def nestOpensSpec : ChangeSpec := { name := "nestOpens", fn := fun _ => fun
  | [d1, d2] => { results := [.lit (.bool true)], args := [d1, d2] }
  | _ => none }
def nestOpensRow : OpenClaim := { program := "ytblgllngkbjfgaa", sum := "0cf546be4ac8d66ea554a73bdf450b34cbd79a30cbed61fdd19f678a60325690", func := "airline/airlinelaw13.NestOpens", spec := "nestOpens", unfollowed := true, recurses := true, apart := false }
def NestOpensSaid : Prop := nestOpensRow.holds Try.pinned (OpenSpec.ofChange nestOpensSpec)

/-- ITS FALSE NEIGHBOUR: 'it returns false'. Refute it at one input. -/
def nestOpensWrong : ChangeSpec := { name := "nestOpens", fn := fun _ => fun
  | [d1, d2] => { results := [.lit (.bool false)], args := [d1, d2] }
  | _ => none }
def NestOpensWrongFalsely : Prop := nestOpensRow.holds Try.pinned (OpenSpec.ofChange nestOpensWrong)

/-- 'airlinelaw13.NestSells': WHATEVER THE INPUT: true; the input reads as it did. -/
def nestSellsSpec : ChangeSpec := { name := "nestSells", fn := fun _ => fun
  | [d1, d2, d3] => { results := [.lit (.bool true)], args := [d1, d2, d3] }
  | _ => none }
def nestSellsRow : OpenClaim := { program := "ytblgllngkbjfgaa", sum := "0cf546be4ac8d66ea554a73bdf450b34cbd79a30cbed61fdd19f678a60325690", func := "airline/airlinelaw13.NestSells", spec := "nestSells", unfollowed := true, recurses := true, apart := false }
def NestSellsSaid : Prop := nestSellsRow.holds Try.pinned (OpenSpec.ofChange nestSellsSpec)

/-- ITS FALSE NEIGHBOUR: 'it returns false'. Refute it at one input. -/
def nestSellsWrong : ChangeSpec := { name := "nestSells", fn := fun _ => fun
  | [d1, d2, d3] => { results := [.lit (.bool false)], args := [d1, d2, d3] }
  | _ => none }
def NestSellsWrongFalsely : Prop := nestSellsRow.holds Try.pinned (OpenSpec.ofChange nestSellsWrong)

/-- 'airlinelaw13.NestLimits': WHATEVER THE INPUT: true; the input reads as it did. -/
def nestLimitsSpec : ChangeSpec := { name := "nestLimits", fn := fun _ => fun
  | [d1, d2, d3] => { results := [.lit (.bool true)], args := [d1, d2, d3] }
  | _ => none }
def nestLimitsRow : OpenClaim := { program := "ytblgllngkbjfgaa", sum := "0cf546be4ac8d66ea554a73bdf450b34cbd79a30cbed61fdd19f678a60325690", func := "airline/airlinelaw13.NestLimits", spec := "nestLimits", unfollowed := true, recurses := true, apart := false }
def NestLimitsSaid : Prop := nestLimitsRow.holds Try.pinned (OpenSpec.ofChange nestLimitsSpec)

/-- ITS FALSE NEIGHBOUR: 'it returns false'. Refute it at one input. -/
def nestLimitsWrong : ChangeSpec := { name := "nestLimits", fn := fun _ => fun
  | [d1, d2, d3] => { results := [.lit (.bool false)], args := [d1, d2, d3] }
  | _ => none }
def NestLimitsWrongFalsely : Prop := nestLimitsRow.holds Try.pinned (OpenSpec.ofChange nestLimitsWrong)

/-- 'airlinelaw13.NestBack': WHATEVER THE INPUT: true; the input reads as it did. -/
def nestBackSpec : ChangeSpec := { name := "nestBack", fn := fun _ => fun
  | [d1, d2, d3] => { results := [.lit (.bool true)], args := [d1, d2, d3] }
  | _ => none }
def nestBackRow : OpenClaim := { program := "ytblgllngkbjfgaa", sum := "0cf546be4ac8d66ea554a73bdf450b34cbd79a30cbed61fdd19f678a60325690", func := "airline/airlinelaw13.NestBack", spec := "nestBack", unfollowed := true, recurses := true, apart := false }
def NestBackSaid : Prop := nestBackRow.holds Try.pinned (OpenSpec.ofChange nestBackSpec)

/-- ITS FALSE NEIGHBOUR: 'it returns false'. Refute it at one input. -/
def nestBackWrong : ChangeSpec := { name := "nestBack", fn := fun _ => fun
  | [d1, d2, d3] => { results := [.lit (.bool false)], args := [d1, d2, d3] }
  | _ => none }
def NestBackWrongFalsely : Prop := nestBackRow.holds Try.pinned (OpenSpec.ofChange nestBackWrong)

/-- 'airlinelaw13.NestPlays': WHATEVER THE INPUT: true; the input reads as it did. -/
def nestPlaysSpec : ChangeSpec := { name := "nestPlays", fn := fun _ => fun
  | [d1, d2] => { results := [.lit (.bool true)], args := [d1, d2] }
  | _ => none }
def nestPlaysRow : OpenClaim := { program := "ytblgllngkbjfgaa", sum := "0cf546be4ac8d66ea554a73bdf450b34cbd79a30cbed61fdd19f678a60325690", func := "airline/airlinelaw13.NestPlays", spec := "nestPlays", unfollowed := true, recurses := true, apart := false }
def NestPlaysSaid : Prop := nestPlaysRow.holds Try.pinned (OpenSpec.ofChange nestPlaysSpec)

/-- ITS FALSE NEIGHBOUR: 'it returns false'. Refute it at one input. -/
def nestPlaysWrong : ChangeSpec := { name := "nestPlays", fn := fun _ => fun
  | [d1, d2] => { results := [.lit (.bool false)], args := [d1, d2] }
  | _ => none }
def NestPlaysWrongFalsely : Prop := nestPlaysRow.holds Try.pinned (OpenSpec.ofChange nestPlaysWrong)

/- THE SECOND FORM. 'bulk': how many values and letters a reading holds, each counted each time it is reached (what is shared counts as often as it is met; a slice's spare places count too). A statement '..UptoSaid' is the law's where the arguments, and the package variables that the reading takes, are together of bulk at most 1048576: NARROWER than '..Said'. Prove '..Said' where nothing that the law and all that it calls make is longer than what came in: it says more and counts as full. Else prove '..UptoSaid'. A law counts once. -/
mutual
def uptoBulk {H : Type} : DataW H → Nat
  | .lit (.string bytes) => bytes.length + 1
  | .lit _ => 1
  | .nil => 1
  | .ptr d => uptoBulk d + 1
  | .slice elems spare => uptoBulkAll elems + uptoBulkAll spare + 1
  | .agg parts => uptoBulkAll parts + 1
  | .iface _ d => uptoBulk d + 1
  | .map entries => uptoBulkEntries entries + 1
  | .held _ => 1
def uptoBulkAll {H : Type} : List (DataW H) → Nat
  | [] => 0
  | d :: r => uptoBulk d + uptoBulkAll r
def uptoBulkEntries {H : Type} : List (Lit × DataW H) → Nat
  | [] => 0
  | x :: r => uptoBulkEntry x + uptoBulkEntries r
def uptoBulkEntry {H : Type} : Lit × DataW H → Nat
  | (.string bytes, d) => bytes.length + uptoBulk d + 1
  | (_, d) => uptoBulk d + 1
 end
def uptoSmall : (H : Type) → List (DataW H) → Bool := fun _ ds => decide (uptoBulkAll ds ≤ 1048576)
def OpenSpec.upto (s : _root_.Go.ChangeSpec) : _root_.Go.OpenSpec := { _root_.Go.OpenSpec.ofChange s with cond := some uptoSmall }

/-- 'airlinelaw13.NestOpens', WHERE WHAT IT READS IS OF BULK AT MOST 1048576: true; the input reads as it did. -/
def nestOpensUptoRow : OpenClaim := { program := "ytblgllngkbjfgaa", sum := "0cf546be4ac8d66ea554a73bdf450b34cbd79a30cbed61fdd19f678a60325690", func := "airline/airlinelaw13.NestOpens", spec := "nestOpens", unfollowed := true, recurses := true, apart := false, narrowed := true }
def NestOpensUptoSaid : Prop := nestOpensUptoRow.holds Try.pinned (OpenSpec.upto nestOpensSpec)

/-- 'airlinelaw13.NestSells', WHERE WHAT IT READS IS OF BULK AT MOST 1048576: true; the input reads as it did. -/
def nestSellsUptoRow : OpenClaim := { program := "ytblgllngkbjfgaa", sum := "0cf546be4ac8d66ea554a73bdf450b34cbd79a30cbed61fdd19f678a60325690", func := "airline/airlinelaw13.NestSells", spec := "nestSells", unfollowed := true, recurses := true, apart := false, narrowed := true }
def NestSellsUptoSaid : Prop := nestSellsUptoRow.holds Try.pinned (OpenSpec.upto nestSellsSpec)

/-- 'airlinelaw13.NestLimits', WHERE WHAT IT READS IS OF BULK AT MOST 1048576: true; the input reads as it did. -/
def nestLimitsUptoRow : OpenClaim := { program := "ytblgllngkbjfgaa", sum := "0cf546be4ac8d66ea554a73bdf450b34cbd79a30cbed61fdd19f678a60325690", func := "airline/airlinelaw13.NestLimits", spec := "nestLimits", unfollowed := true, recurses := true, apart := false, narrowed := true }
def NestLimitsUptoSaid : Prop := nestLimitsUptoRow.holds Try.pinned (OpenSpec.upto nestLimitsSpec)

/-- 'airlinelaw13.NestBack', WHERE WHAT IT READS IS OF BULK AT MOST 1048576: true; the input reads as it did. -/
def nestBackUptoRow : OpenClaim := { program := "ytblgllngkbjfgaa", sum := "0cf546be4ac8d66ea554a73bdf450b34cbd79a30cbed61fdd19f678a60325690", func := "airline/airlinelaw13.NestBack", spec := "nestBack", unfollowed := true, recurses := true, apart := false, narrowed := true }
def NestBackUptoSaid : Prop := nestBackUptoRow.holds Try.pinned (OpenSpec.upto nestBackSpec)

/-- 'airlinelaw13.NestPlays', WHERE WHAT IT READS IS OF BULK AT MOST 1048576: true; the input reads as it did. -/
def nestPlaysUptoRow : OpenClaim := { program := "ytblgllngkbjfgaa", sum := "0cf546be4ac8d66ea554a73bdf450b34cbd79a30cbed61fdd19f678a60325690", func := "airline/airlinelaw13.NestPlays", spec := "nestPlays", unfollowed := true, recurses := true, apart := false, narrowed := true }
def NestPlaysUptoSaid : Prop := nestPlaysUptoRow.holds Try.pinned (OpenSpec.upto nestPlaysSpec)

end Rows
end Go.Proofs.Ytblgllngkbjfgaa
