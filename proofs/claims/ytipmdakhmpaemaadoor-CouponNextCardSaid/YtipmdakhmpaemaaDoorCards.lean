/-
  DERIVED. GIVEN WITH THE SEED: THE CARDS: each row of YtipmdakhmpaemaaDoorRows.lean that lists a variable, with what it lists TIED to the program's text (the seventh form; the later family's looks); each row that meets fmt, with fmt's text TOLD by the authors' own Lean function (tested against real Go, not proved from fmt's source: count such statements apart). THE CARD IS WHAT COUNTS. Prove the row's statement (the work); the ties are given (YtipmdakhmpaemaaDoorTie.lean); close each card by the builder's one call (the guide's Derived/Test/ToyasCard.lean, 'card_holds'). Laid BY PROGRAM, IN A SANDBOX (cutbox-door.mjs). By AI agents, Wed Nov 11 2026. No macro, syntax, notation, axiom, sorry.
-/
import Derived.Test.YtipmdakhmpaemaaDoorRows
import GoSem.ClaimSeven
namespace Go.Proofs.YtipmdakhmpaemaaDoor
namespace Rows

/-- THE TIED CARD OF 'airlinelaw38.CouponNext'. -/
def couponNextCard : Claim7 := { stood := { row := couponNextRow, standIns := [], harness := (true, "4342ab4bea4eac7bae8d450121b8c08961aeaff7460c3dae32bd62ddc28a1991"), looks := false }, kinds := [], alts := [], laidByText := true, laidKinds := [.data], laidTests := true, laidLooks := .later }
def CouponNextCardSaid : Prop := Claim7.holds Tryd.pinned (.plain (OpenSpec.ofChange couponNextSpec)) couponNextCard

/-- THE TIED CARD OF 'airlinelaw38.CouponStatuses'. -/
def couponStatusesCard : Claim7 := { stood := { row := couponStatusesRow, standIns := [], harness := (true, "4342ab4bea4eac7bae8d450121b8c08961aeaff7460c3dae32bd62ddc28a1991"), looks := false }, kinds := [], alts := [], laidByText := true, laidKinds := [.data], laidTests := true, laidLooks := .later }
def CouponStatusesCardSaid : Prop := Claim7.holds Tryd.pinned (.plain (OpenSpec.ofChange couponStatusesSpec)) couponStatusesCard

/-- THE TIED CARD OF 'airlinelaw38.CouponReach'. -/
def couponReachCard : Claim7 := { stood := { row := couponReachRow, standIns := [], harness := (true, "4342ab4bea4eac7bae8d450121b8c08961aeaff7460c3dae32bd62ddc28a1991"), looks := false }, kinds := [], alts := [], laidByText := true, laidKinds := [.data], laidTests := true, laidLooks := .later }
def CouponReachCardSaid : Prop := Claim7.holds Tryd.pinned (.plain (OpenSpec.ofChange couponReachSpec)) couponReachCard

/-- THE TIED CARD OF 'airlinelaw38.CouponMoves'. -/
def couponMovesCard : Claim7 := { stood := { row := couponMovesRow, standIns := [], harness := (true, "4342ab4bea4eac7bae8d450121b8c08961aeaff7460c3dae32bd62ddc28a1991"), looks := false }, kinds := [], alts := [], laidByText := true, laidKinds := [.data], laidTests := true, laidLooks := .later }
def CouponMovesCardSaid : Prop := Claim7.holds Tryd.pinned (.plain (OpenSpec.ofChange couponMovesSpec)) couponMovesCard

/-- THE TIED CARD OF 'airlinelaw38.CouponTexts'. -/
def couponTextsCard : Claim7 := { stood := { row := couponTextsRow, standIns := [], harness := (true, "4342ab4bea4eac7bae8d450121b8c08961aeaff7460c3dae32bd62ddc28a1991"), looks := false }, kinds := [], alts := [], laidByText := true, laidKinds := [.data], laidTests := true, laidLooks := .later }
def CouponTextsCardSaid : Prop := Claim7.holds Tryd.pinned (.plain (OpenSpec.ofChange couponTextsSpec)) couponTextsCard

/-- THE SECOND FORM's CARD OF 'airlinelaw38.CouponNext'. -/
def couponNextUptoCard : Claim7 := { stood := { row := couponNextUptoRow, standIns := [], harness := (true, "4342ab4bea4eac7bae8d450121b8c08961aeaff7460c3dae32bd62ddc28a1991"), looks := false }, kinds := [], alts := [], laidByText := true, laidKinds := [.data], laidTests := true, laidLooks := .later }
def CouponNextUptoCardSaid : Prop := Claim7.holds Tryd.pinned (.plain (OpenSpec.upto couponNextSpec)) couponNextUptoCard

/-- THE SECOND FORM's CARD OF 'airlinelaw38.CouponStatuses'. -/
def couponStatusesUptoCard : Claim7 := { stood := { row := couponStatusesUptoRow, standIns := [], harness := (true, "4342ab4bea4eac7bae8d450121b8c08961aeaff7460c3dae32bd62ddc28a1991"), looks := false }, kinds := [], alts := [], laidByText := true, laidKinds := [.data], laidTests := true, laidLooks := .later }
def CouponStatusesUptoCardSaid : Prop := Claim7.holds Tryd.pinned (.plain (OpenSpec.upto couponStatusesSpec)) couponStatusesUptoCard

/-- THE SECOND FORM's CARD OF 'airlinelaw38.CouponReach'. -/
def couponReachUptoCard : Claim7 := { stood := { row := couponReachUptoRow, standIns := [], harness := (true, "4342ab4bea4eac7bae8d450121b8c08961aeaff7460c3dae32bd62ddc28a1991"), looks := false }, kinds := [], alts := [], laidByText := true, laidKinds := [.data], laidTests := true, laidLooks := .later }
def CouponReachUptoCardSaid : Prop := Claim7.holds Tryd.pinned (.plain (OpenSpec.upto couponReachSpec)) couponReachUptoCard

/-- THE SECOND FORM's CARD OF 'airlinelaw38.CouponMoves'. -/
def couponMovesUptoCard : Claim7 := { stood := { row := couponMovesUptoRow, standIns := [], harness := (true, "4342ab4bea4eac7bae8d450121b8c08961aeaff7460c3dae32bd62ddc28a1991"), looks := false }, kinds := [], alts := [], laidByText := true, laidKinds := [.data], laidTests := true, laidLooks := .later }
def CouponMovesUptoCardSaid : Prop := Claim7.holds Tryd.pinned (.plain (OpenSpec.upto couponMovesSpec)) couponMovesUptoCard

/-- THE SECOND FORM's CARD OF 'airlinelaw38.CouponTexts'. -/
def couponTextsUptoCard : Claim7 := { stood := { row := couponTextsUptoRow, standIns := [], harness := (true, "4342ab4bea4eac7bae8d450121b8c08961aeaff7460c3dae32bd62ddc28a1991"), looks := false }, kinds := [], alts := [], laidByText := true, laidKinds := [.data], laidTests := true, laidLooks := .later }
def CouponTextsUptoCardSaid : Prop := Claim7.holds Tryd.pinned (.plain (OpenSpec.upto couponTextsSpec)) couponTextsUptoCard
end Rows
end Go.Proofs.YtipmdakhmpaemaaDoor
