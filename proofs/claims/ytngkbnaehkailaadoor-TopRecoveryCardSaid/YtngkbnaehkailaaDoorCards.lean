/-
  DERIVED. GIVEN WITH THE SEED: THE CARDS: each row of YtngkbnaehkailaaDoorRows.lean that lists a variable, with what it lists TIED to the program's text (the seventh form; the later family's looks); each row that meets fmt, with fmt's text TOLD by the authors' own Lean function (tested against real Go, not proved from fmt's source: count such statements apart). THE CARD IS WHAT COUNTS. Prove the row's statement (the work); the ties are given (YtngkbnaehkailaaDoorTie.lean); close each card by the builder's one call (the guide's Derived/Test/ToyasCard.lean, 'card_holds'). Laid BY PROGRAM, IN A SANDBOX (cutbox-door.mjs). By AI agents, Wed Nov 11 2026. No macro, syntax, notation, axiom, sorry.
-/
import Derived.Test.YtngkbnaehkailaaDoorRows
import GoSem.ClaimSeven
namespace Go.Proofs.YtngkbnaehkailaaDoor
namespace Rows

/-- THE TIED CARD OF 'airlinetop.TopRecovery'. -/
def topRecoveryCard : Claim7 := { stood := { row := topRecoveryRow, standIns := [], harness := (true, "280a84860f2054663a8740ab9ff90e3445792c09189a7f94bba296c8522719cb"), looks := false }, kinds := [], alts := [], laidByText := true, laidKinds := [.data], laidTests := true, laidLooks := .later }
def TopRecoveryCardSaid : Prop := Claim7.holds Tryd.pinned (.plain (OpenSpec.ofChange topRecoverySpec)) topRecoveryCard

/-- THE SECOND FORM's CARD OF 'airlinetop.TopRecovery'. -/
def topRecoveryUptoCard : Claim7 := { stood := { row := topRecoveryUptoRow, standIns := [], harness := (true, "280a84860f2054663a8740ab9ff90e3445792c09189a7f94bba296c8522719cb"), looks := false }, kinds := [], alts := [], laidByText := true, laidKinds := [.data], laidTests := true, laidLooks := .later }
def TopRecoveryUptoCardSaid : Prop := Claim7.holds Tryd.pinned (.plain (OpenSpec.upto topRecoverySpec)) topRecoveryUptoCard
end Rows
end Go.Proofs.YtngkbnaehkailaaDoor
