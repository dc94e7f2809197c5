/-
  NARROWER THAN 'FOR EVERY INPUT', by the rows' own cells (each row's printed sentence says how): CombinePairs: loops · CombineMixed: loops · CombineStays: loops · CombineOnce: loops.
  DERIVED. THE GIVEN ROWS OF THIS SEAT. 4 by the template 'for every input the law returns true; each argument reads behind the call as it read before'; 0 by the template 'total and deterministic' (their statements: YtblmafknmeicfaaTotals.lean).
  GIVEN WITH THE SEED: the statements are not yours to turn. If you find one false, say at which input.
  Laid BY PROGRAM, IN A SANDBOX (cutbox-rows.mjs): the forced cells as the released guide's own fill.sh prints them over the translation 20395973833752b9… (all of the seat's roots in one cut). By AI agents, Wed Nov 11 2026. No macro, syntax, notation, axiom, sorry.
-/
import Derived.Test.YtblmafknmeicfaaChecked
import GoSem.Claim
import GoSem.ClaimJoined
import GoSem.ClaimMapViews
import Derived.JoinedTies
import Derived.KernelRfl
namespace Go.Proofs.Ytblmafknmeicfaa
/- THE CELL 'sum', in the pinned program and in every row, IS THE sha256 OF THE DUMP (.gsa) THAT YtblmafknmeicfaaProg.lean LOADS. Nothing in Lean hashes anything: it is a label: what it is worth is what the hold of that sum in a sandbox is worth. -/
noncomputable def Try.pinned : Pinned := { name := "ytblmafknmeicfaa", sum := "20395973833752b96ec385ad2c68b5488b418c6ea69600bc801ab830718f41bb", checked := Try.checked }
namespace Rows
def none {H : Type} : Left H := { results := [], args := [] }

/-- 'airlinelaw26.CombinePairs': WHATEVER THE INPUT: true; the input reads as it did. -/
def combinePairsSpec : ChangeSpec := { name := "combinePairs", fn := fun _ => fun
  | [d1, d2] => { results := [.lit (.bool true)], args := [d1, d2] }
  | _ => none }
def combinePairsRow : OpenClaim := { program := "ytblmafknmeicfaa", sum := "20395973833752b96ec385ad2c68b5488b418c6ea69600bc801ab830718f41bb", func := "airline/airlinelaw26.CombinePairs", spec := "combinePairs", unfollowed := true, recurses := true, loops := true, apart := false }
def CombinePairsSaid : Prop := combinePairsRow.holds Try.pinned (OpenSpec.ofChange combinePairsSpec)

/-- ITS FALSE NEIGHBOUR: 'it returns false'. Refute it at one input. -/
def combinePairsWrong : ChangeSpec := { name := "combinePairs", fn := fun _ => fun
  | [d1, d2] => { results := [.lit (.bool false)], args := [d1, d2] }
  | _ => none }
def CombinePairsWrongFalsely : Prop := combinePairsRow.holds Try.pinned (OpenSpec.ofChange combinePairsWrong)

/-- 'airlinelaw26.CombineMixed': WHATEVER THE INPUT: true; the input reads as it did. -/
def combineMixedSpec : ChangeSpec := { name := "combineMixed", fn := fun _ => fun
  | [d1, d2, d3] => { results := [.lit (.bool true)], args := [d1, d2, d3] }
  | _ => none }
def combineMixedRow : OpenClaim := { program := "ytblmafknmeicfaa", sum := "20395973833752b96ec385ad2c68b5488b418c6ea69600bc801ab830718f41bb", func := "airline/airlinelaw26.CombineMixed", spec := "combineMixed", unfollowed := true, recurses := true, loops := true, apart := false }
def CombineMixedSaid : Prop := combineMixedRow.holds Try.pinned (OpenSpec.ofChange combineMixedSpec)

/-- ITS FALSE NEIGHBOUR: 'it returns false'. Refute it at one input. -/
def combineMixedWrong : ChangeSpec := { name := "combineMixed", fn := fun _ => fun
  | [d1, d2, d3] => { results := [.lit (.bool false)], args := [d1, d2, d3] }
  | _ => none }
def CombineMixedWrongFalsely : Prop := combineMixedRow.holds Try.pinned (OpenSpec.ofChange combineMixedWrong)

/-- 'airlinelaw26.CombineStays': WHATEVER THE INPUT: true; the input reads as it did. -/
def combineStaysSpec : ChangeSpec := { name := "combineStays", fn := fun _ => fun
  | [d1, d2, d3] => { results := [.lit (.bool true)], args := [d1, d2, d3] }
  | _ => none }
def combineStaysRow : OpenClaim := { program := "ytblmafknmeicfaa", sum := "20395973833752b96ec385ad2c68b5488b418c6ea69600bc801ab830718f41bb", func := "airline/airlinelaw26.CombineStays", spec := "combineStays", unfollowed := true, recurses := true, loops := true, apart := false }
def CombineStaysSaid : Prop := combineStaysRow.holds Try.pinned (OpenSpec.ofChange combineStaysSpec)

/-- ITS FALSE NEIGHBOUR: 'it returns false'. Refute it at one input. -/
def combineStaysWrong : ChangeSpec := { name := "combineStays", fn := fun _ => fun
  | [d1, d2, d3] => { results := [.lit (.bool false)], args := [d1, d2, d3] }
  | _ => none }
def CombineStaysWrongFalsely : Prop := combineStaysRow.holds Try.pinned (OpenSpec.ofChange combineStaysWrong)

/-- 'airlinelaw26.CombineOnce': WHATEVER THE INPUT: true; the input reads as it did. -/
def combineOnceSpec : ChangeSpec := { name := "combineOnce", fn := fun _ => fun
  | [d1, d2] => { results := [.lit (.bool true)], args := [d1, d2] }
  | _ => none }
def combineOnceRow : OpenClaim := { program := "ytblmafknmeicfaa", sum := "20395973833752b96ec385ad2c68b5488b418c6ea69600bc801ab830718f41bb", func := "airline/airlinelaw26.CombineOnce", spec := "combineOnce", unfollowed := true, recurses := true, loops := true, apart := false }
def CombineOnceSaid : Prop := combineOnceRow.holds Try.pinned (OpenSpec.ofChange combineOnceSpec)

/-- ITS FALSE NEIGHBOUR: 'it returns false'. Refute it at one input. -/
def combineOnceWrong : ChangeSpec := { name := "combineOnce", fn := fun _ => fun
  | [d1, d2] => { results := [.lit (.bool false)], args := [d1, d2] }
  | _ => none }
def CombineOnceWrongFalsely : Prop := combineOnceRow.holds Try.pinned (OpenSpec.ofChange combineOnceWrong)

/- THE SECOND FORM. 'bulk': how many values and letters a reading holds, each counted each time it is reached (what is shared counts as often as it is met; a slice's spare places count too). A statement '..UptoSaid' is the law's where the arguments, and the package variables that the reading takes, are together of bulk at most 1048576: NARROWER than '..Said'. Prove '..Said' where nothing that the law and all that it calls make is longer than what came in: it says more and counts as full. Else prove '..UptoSaid'. A law counts once. -/
mutual
def uptoBulk {H : Type} : DataW H → Nat
  | .lit (.string bytes) => bytes.length + 1
  | .lit _ => 1
  | .nil => 1
  | .ptr d => uptoBulk d + 1
  | .slice elems spare => uptoBulkAll elems + uptoBulkAll spare + 1
  | .agg parts => uptoBulkAll parts + 1
  | .iface _ d => uptoBulk d + 1
  | .map entries => uptoBulkEntries entries + 1
  | .held _ => 1
def uptoBulkAll {H : Type} : List (DataW H) → Nat
  | [] => 0
  | d :: r => uptoBulk d + uptoBulkAll r
def uptoBulkEntries {H : Type} : List (Lit × DataW H) → Nat
  | [] => 0
  | x :: r => uptoBulkEntry x + uptoBulkEntries r
def uptoBulkEntry {H : Type} : Lit × DataW H → Nat
  | (.string bytes, d) => bytes.length + uptoBulk d + 1
  | (_, d) => uptoBulk d + 1
 end
def uptoSmall : (H : Type) → List (DataW H) → Bool := fun _ ds => decide (uptoBulkAll ds ≤ 1048576)
def OpenSpec.upto (s : _root_.Go.ChangeSpec) : _root_.Go.OpenSpec := { _root_.Go.OpenSpec.ofChange s with cond := some uptoSmall }

/-- 'airlinelaw26.CombinePairs', WHERE WHAT IT READS IS OF BULK AT MOST 1048576: true; the input reads as it did. -/
def combinePairsUptoRow : OpenClaim := { program := "ytblmafknmeicfaa", sum := "20395973833752b96ec385ad2c68b5488b418c6ea69600bc801ab830718f41bb", func := "airline/airlinelaw26.CombinePairs", spec := "combinePairs", unfollowed := true, recurses := true, loops := true, apart := false, narrowed := true }
def CombinePairsUptoSaid : Prop := combinePairsUptoRow.holds Try.pinned (OpenSpec.upto combinePairsSpec)

/-- 'airlinelaw26.CombineMixed', WHERE WHAT IT READS IS OF BULK AT MOST 1048576: true; the input reads as it did. -/
def combineMixedUptoRow : OpenClaim := { program := "ytblmafknmeicfaa", sum := "20395973833752b96ec385ad2c68b5488b418c6ea69600bc801ab830718f41bb", func := "airline/airlinelaw26.CombineMixed", spec := "combineMixed", unfollowed := true, recurses := true, loops := true, apart := false, narrowed := true }
def CombineMixedUptoSaid : Prop := combineMixedUptoRow.holds Try.pinned (OpenSpec.upto combineMixedSpec)

/-- 'airlinelaw26.CombineStays', WHERE WHAT IT READS IS OF BULK AT MOST 1048576: true; the input reads as it did. -/
def combineStaysUptoRow : OpenClaim := { program := "ytblmafknmeicfaa", sum := "20395973833752b96ec385ad2c68b5488b418c6ea69600bc801ab830718f41bb", func := "airline/airlinelaw26.CombineStays", spec := "combineStays", unfollowed := true, recurses := true, loops := true, apart := false, narrowed := true }
def CombineStaysUptoSaid : Prop := combineStaysUptoRow.holds Try.pinned (OpenSpec.upto combineStaysSpec)

/-- 'airlinelaw26.CombineOnce', WHERE WHAT IT READS IS OF BULK AT MOST 1048576: true; the input reads as it did. -/
def combineOnceUptoRow : OpenClaim := { program := "ytblmafknmeicfaa", sum := "20395973833752b96ec385ad2c68b5488b418c6ea69600bc801ab830718f41bb", func := "airline/airlinelaw26.CombineOnce", spec := "combineOnce", unfollowed := true, recurses := true, loops := true, apart := false, narrowed := true }
def CombineOnceUptoSaid : Prop := combineOnceUptoRow.holds Try.pinned (OpenSpec.upto combineOnceSpec)

end Rows
end Go.Proofs.Ytblmafknmeicfaa
