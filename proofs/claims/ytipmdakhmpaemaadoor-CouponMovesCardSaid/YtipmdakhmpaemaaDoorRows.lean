/-
  NARROWER THAN 'FOR EVERY INPUT', by the rows' own cells (each row's printed sentence says how): CouponNext: laid · CouponStatuses: laid · CouponReach: laid · CouponMoves: laid · CouponTexts: laid.
  DERIVED. THE GIVEN ROWS OF THIS SEAT. 5 by the template 'for every input the law returns true; each argument reads behind the call as it read before'; 0 by the template 'total and deterministic' (their statements: YtipmdakhmpaemaaDoorTotals.lean).
  GIVEN WITH THE SEED: the statements are not yours to turn. If you find one false, say at which input.
  Laid BY PROGRAM, IN A SANDBOX (cutbox-rows.mjs): the forced cells as the released guide's own fill.sh prints them over the translation d5d1b332e7b0fb85… (all of the seat's roots in one cut). By AI agents, Wed Nov 11 2026. No macro, syntax, notation, axiom, sorry.
-/
import Derived.Test.YtipmdakhmpaemaaDoorChecked
import GoSem.Claim
import GoSem.ClaimJoined
import GoSem.ClaimMapViews
import Derived.JoinedTies
import Derived.KernelRfl
namespace Go.Proofs.YtipmdakhmpaemaaDoor
/- THE CELL 'sum', in the pinned program and in every row, IS THE sha256 OF THE DUMP (.gsa) THAT YtipmdakhmpaemaaDoorProg.lean LOADS. Nothing in Lean hashes anything: it is a label: what it is worth is what the hold of that sum in a sandbox is worth. -/
noncomputable def Tryd.pinned : Pinned := { name := "ytipmdakhmpaemaadoor", sum := "d5d1b332e7b0fb85d0b8a28ab8faa062b665f9da4c295395c437b571e1b297eb", checked := Tryd.checked }
namespace Rows
def none {H : Type} : Left H := { results := [], args := [] }

/- WHAT THE LISTED PACKAGE-LEVEL VARIABLES READ AS WHEN THE CALL BEGINS. Each datum BY PROGRAM (the guide's laid-datum.mjs) off the statement by which the dump's own 'gosem.cut.vars' lays the variable. In a bare row this is a premise. The card (YtipmdakhmpaemaaDoorCards.lean) ties it to the program's text. -/
def laid_airline_coupon_words {H : Type} : DataW H := .agg [.lit (.string []), .lit (.string [111, 112, 101, 110]), .lit (.string [99, 111, 110, 116, 114, 111, 108]), .lit (.string [99, 104, 101, 99, 107, 101, 100]), .lit (.string [98, 111, 97, 114, 100, 101, 100]), .lit (.string [102, 108, 111, 119, 110]), .lit (.string [101, 120, 99, 104, 97, 110, 103, 101, 100]), .lit (.string [114, 101, 102, 117, 110, 100, 101, 100]), .lit (.string [118, 111, 105, 100])]

/-- 'airlinelaw38.CouponNext': WHATEVER THE INPUT: true; the input reads as it did. -/
def couponNextSpec : ChangeSpec := { name := "couponNext", fn := fun _ => fun
  | [d1, d2] => { results := [.lit (.bool true)], args := [d1, d2] }
  | _ => none }
def couponNextRow : OpenClaim := { program := "ytipmdakhmpaemaadoor", sum := "d5d1b332e7b0fb85d0b8a28ab8faa062b665f9da4c295395c437b571e1b297eb", func := "airline/airlinelaw38.CouponNext", spec := "couponNext", named := ["airline/coupon.words"], apart := false, laid := [("airline/coupon.words", laid_airline_coupon_words)] }
def CouponNextSaid : Prop := couponNextRow.holds Tryd.pinned (OpenSpec.ofChange couponNextSpec)

/-- ITS FALSE NEIGHBOUR: 'it returns false'. Refute it at one input. -/
def couponNextWrong : ChangeSpec := { name := "couponNext", fn := fun _ => fun
  | [d1, d2] => { results := [.lit (.bool false)], args := [d1, d2] }
  | _ => none }
def CouponNextWrongFalsely : Prop := couponNextRow.holds Tryd.pinned (OpenSpec.ofChange couponNextWrong)

/-- 'airlinelaw38.CouponStatuses': WHATEVER THE INPUT: true; the input reads as it did. -/
def couponStatusesSpec : ChangeSpec := { name := "couponStatuses", fn := fun _ => fun
  | [d1, d2] => { results := [.lit (.bool true)], args := [d1, d2] }
  | _ => none }
def couponStatusesRow : OpenClaim := { program := "ytipmdakhmpaemaadoor", sum := "d5d1b332e7b0fb85d0b8a28ab8faa062b665f9da4c295395c437b571e1b297eb", func := "airline/airlinelaw38.CouponStatuses", spec := "couponStatuses", named := ["airline/coupon.words"], apart := false, laid := [("airline/coupon.words", laid_airline_coupon_words)] }
def CouponStatusesSaid : Prop := couponStatusesRow.holds Tryd.pinned (OpenSpec.ofChange couponStatusesSpec)

/-- ITS FALSE NEIGHBOUR: 'it returns false'. Refute it at one input. -/
def couponStatusesWrong : ChangeSpec := { name := "couponStatuses", fn := fun _ => fun
  | [d1, d2] => { results := [.lit (.bool false)], args := [d1, d2] }
  | _ => none }
def CouponStatusesWrongFalsely : Prop := couponStatusesRow.holds Tryd.pinned (OpenSpec.ofChange couponStatusesWrong)

/-- 'airlinelaw38.CouponReach': WHATEVER THE INPUT: true; the input reads as it did. -/
def couponReachSpec : ChangeSpec := { name := "couponReach", fn := fun _ => fun
  | [d1, d2, d3] => { results := [.lit (.bool true)], args := [d1, d2, d3] }
  | _ => none }
def couponReachRow : OpenClaim := { program := "ytipmdakhmpaemaadoor", sum := "d5d1b332e7b0fb85d0b8a28ab8faa062b665f9da4c295395c437b571e1b297eb", func := "airline/airlinelaw38.CouponReach", spec := "couponReach", named := ["airline/coupon.words"], apart := false, laid := [("airline/coupon.words", laid_airline_coupon_words)] }
def CouponReachSaid : Prop := couponReachRow.holds Tryd.pinned (OpenSpec.ofChange couponReachSpec)

/-- ITS FALSE NEIGHBOUR: 'it returns false'. Refute it at one input. -/
def couponReachWrong : ChangeSpec := { name := "couponReach", fn := fun _ => fun
  | [d1, d2, d3] => { results := [.lit (.bool false)], args := [d1, d2, d3] }
  | _ => none }
def CouponReachWrongFalsely : Prop := couponReachRow.holds Tryd.pinned (OpenSpec.ofChange couponReachWrong)

/-- 'airlinelaw38.CouponMoves': WHATEVER THE INPUT: true; the input reads as it did. -/
def couponMovesSpec : ChangeSpec := { name := "couponMoves", fn := fun _ => fun
  | [d1, d2, d3] => { results := [.lit (.bool true)], args := [d1, d2, d3] }
  | _ => none }
def couponMovesRow : OpenClaim := { program := "ytipmdakhmpaemaadoor", sum := "d5d1b332e7b0fb85d0b8a28ab8faa062b665f9da4c295395c437b571e1b297eb", func := "airline/airlinelaw38.CouponMoves", spec := "couponMoves", named := ["airline/coupon.words"], apart := false, laid := [("airline/coupon.words", laid_airline_coupon_words)] }
def CouponMovesSaid : Prop := couponMovesRow.holds Tryd.pinned (OpenSpec.ofChange couponMovesSpec)

/-- ITS FALSE NEIGHBOUR: 'it returns false'. Refute it at one input. -/
def couponMovesWrong : ChangeSpec := { name := "couponMoves", fn := fun _ => fun
  | [d1, d2, d3] => { results := [.lit (.bool false)], args := [d1, d2, d3] }
  | _ => none }
def CouponMovesWrongFalsely : Prop := couponMovesRow.holds Tryd.pinned (OpenSpec.ofChange couponMovesWrong)

/-- 'airlinelaw38.CouponTexts': WHATEVER THE INPUT: true; the input reads as it did. -/
def couponTextsSpec : ChangeSpec := { name := "couponTexts", fn := fun _ => fun
  | [d1, d2] => { results := [.lit (.bool true)], args := [d1, d2] }
  | _ => none }
def couponTextsRow : OpenClaim := { program := "ytipmdakhmpaemaadoor", sum := "d5d1b332e7b0fb85d0b8a28ab8faa062b665f9da4c295395c437b571e1b297eb", func := "airline/airlinelaw38.CouponTexts", spec := "couponTexts", named := ["airline/coupon.words"], apart := false, laid := [("airline/coupon.words", laid_airline_coupon_words)] }
def CouponTextsSaid : Prop := couponTextsRow.holds Tryd.pinned (OpenSpec.ofChange couponTextsSpec)

/-- ITS FALSE NEIGHBOUR: 'it returns false'. Refute it at one input. -/
def couponTextsWrong : ChangeSpec := { name := "couponTexts", fn := fun _ => fun
  | [d1, d2] => { results := [.lit (.bool false)], args := [d1, d2] }
  | _ => none }
def CouponTextsWrongFalsely : Prop := couponTextsRow.holds Tryd.pinned (OpenSpec.ofChange couponTextsWrong)

/- THE SECOND FORM. 'bulk': how many values and letters a reading holds, each counted each time it is reached (what is shared counts as often as it is met; a slice's spare places count too). A statement '..UptoSaid' is the law's where the arguments, and the package variables that the reading takes, are together of bulk at most 1048576: NARROWER than '..Said'. Prove '..Said' where nothing that the law and all that it calls make is longer than what came in: it says more and counts as full. Else prove '..UptoSaid'. A law counts once. -/
mutual
def uptoBulk {H : Type} : DataW H → Nat
  | .lit (.string bytes) => bytes.length + 1
  | .lit _ => 1
  | .nil => 1
  | .ptr d => uptoBulk d + 1
  | .slice elems spare => uptoBulkAll elems + uptoBulkAll spare + 1
  | .agg parts => uptoBulkAll parts + 1
  | .iface _ d => uptoBulk d + 1
  | .map entries => uptoBulkEntries entries + 1
  | .held _ => 1
def uptoBulkAll {H : Type} : List (DataW H) → Nat
  | [] => 0
  | d :: r => uptoBulk d + uptoBulkAll r
def uptoBulkEntries {H : Type} : List (Lit × DataW H) → Nat
  | [] => 0
  | x :: r => uptoBulkEntry x + uptoBulkEntries r
def uptoBulkEntry {H : Type} : Lit × DataW H → Nat
  | (.string bytes, d) => bytes.length + uptoBulk d + 1
  | (_, d) => uptoBulk d + 1
 end
def uptoSmall : (H : Type) → List (DataW H) → Bool := fun _ ds => decide (uptoBulkAll ds ≤ 1048576)
def OpenSpec.upto (s : _root_.Go.ChangeSpec) : _root_.Go.OpenSpec := { _root_.Go.OpenSpec.ofChange s with cond := some uptoSmall }

/-- 'airlinelaw38.CouponNext', WHERE WHAT IT READS IS OF BULK AT MOST 1048576: true; the input reads as it did. -/
def couponNextUptoRow : OpenClaim := { program := "ytipmdakhmpaemaadoor", sum := "d5d1b332e7b0fb85d0b8a28ab8faa062b665f9da4c295395c437b571e1b297eb", func := "airline/airlinelaw38.CouponNext", spec := "couponNext", named := ["airline/coupon.words"], apart := false, laid := [("airline/coupon.words", laid_airline_coupon_words)], narrowed := true }
def CouponNextUptoSaid : Prop := couponNextUptoRow.holds Tryd.pinned (OpenSpec.upto couponNextSpec)

/-- 'airlinelaw38.CouponStatuses', WHERE WHAT IT READS IS OF BULK AT MOST 1048576: true; the input reads as it did. -/
def couponStatusesUptoRow : OpenClaim := { program := "ytipmdakhmpaemaadoor", sum := "d5d1b332e7b0fb85d0b8a28ab8faa062b665f9da4c295395c437b571e1b297eb", func := "airline/airlinelaw38.CouponStatuses", spec := "couponStatuses", named := ["airline/coupon.words"], apart := false, laid := [("airline/coupon.words", laid_airline_coupon_words)], narrowed := true }
def CouponStatusesUptoSaid : Prop := couponStatusesUptoRow.holds Tryd.pinned (OpenSpec.upto couponStatusesSpec)

/-- 'airlinelaw38.CouponReach', WHERE WHAT IT READS IS OF BULK AT MOST 1048576: true; the input reads as it did. -/
def couponReachUptoRow : OpenClaim := { program := "ytipmdakhmpaemaadoor", sum := "d5d1b332e7b0fb85d0b8a28ab8faa062b665f9da4c295395c437b571e1b297eb", func := "airline/airlinelaw38.CouponReach", spec := "couponReach", named := ["airline/coupon.words"], apart := false, laid := [("airline/coupon.words", laid_airline_coupon_words)], narrowed := true }
def CouponReachUptoSaid : Prop := couponReachUptoRow.holds Tryd.pinned (OpenSpec.upto couponReachSpec)

/-- 'airlinelaw38.CouponMoves', WHERE WHAT IT READS IS OF BULK AT MOST 1048576: true; the input reads as it did. -/
def couponMovesUptoRow : OpenClaim := { program := "ytipmdakhmpaemaadoor", sum := "d5d1b332e7b0fb85d0b8a28ab8faa062b665f9da4c295395c437b571e1b297eb", func := "airline/airlinelaw38.CouponMoves", spec := "couponMoves", named := ["airline/coupon.words"], apart := false, laid := [("airline/coupon.words", laid_airline_coupon_words)], narrowed := true }
def CouponMovesUptoSaid : Prop := couponMovesUptoRow.holds Tryd.pinned (OpenSpec.upto couponMovesSpec)

/-- 'airlinelaw38.CouponTexts', WHERE WHAT IT READS IS OF BULK AT MOST 1048576: true; the input reads as it did. -/
def couponTextsUptoRow : OpenClaim := { program := "ytipmdakhmpaemaadoor", sum := "d5d1b332e7b0fb85d0b8a28ab8faa062b665f9da4c295395c437b571e1b297eb", func := "airline/airlinelaw38.CouponTexts", spec := "couponTexts", named := ["airline/coupon.words"], apart := false, laid := [("airline/coupon.words", laid_airline_coupon_words)], narrowed := true }
def CouponTextsUptoSaid : Prop := couponTextsUptoRow.holds Tryd.pinned (OpenSpec.upto couponTextsSpec)

end Rows
end Go.Proofs.YtipmdakhmpaemaaDoor
