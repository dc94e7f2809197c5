/-
  NARROWER THAN 'FOR EVERY INPUT', by the rows' own cells (each row's printed sentence says how): RefundFees: loops · ExchangeFees: loops.
  DERIVED. THE GIVEN ROWS OF THIS SEAT. 9 by the template 'for every input the law returns true; each argument reads behind the call as it read before'; 0 by the template 'total and deterministic' (their statements: YtipmdakhmpaemaaTotals.lean).
  GIVEN WITH THE SEED: the statements are not yours to turn. If you find one false, say at which input.
  Laid BY PROGRAM, IN A SANDBOX (cutbox-rows.mjs): the forced cells as the released guide's own fill.sh prints them over the translation 0c166e734f96403a… (all of the seat's roots in one cut). By AI agents, Wed Nov 11 2026. No macro, syntax, notation, axiom, sorry.
-/
import Derived.Test.YtipmdakhmpaemaaChecked
import GoSem.Claim
import GoSem.ClaimJoined
import GoSem.ClaimMapViews
import Derived.JoinedTies
import Derived.KernelRfl
namespace Go.Proofs.Ytipmdakhmpaemaa
/- THE CELL 'sum', in the pinned program and in every row, IS THE sha256 OF THE DUMP (.gsa) THAT YtipmdakhmpaemaaProg.lean LOADS. Nothing in Lean hashes anything: it is a label: what it is worth is what the hold of that sum in a sandbox is worth. -/
noncomputable def Try.pinned : Pinned := { name := "ytipmdakhmpaemaa", sum := "0c166e734f96403a3153a902a3a64fbd690a76528b0e6a497f13e050d9d296a2", checked := Try.checked }
namespace Rows
def none {H : Type} : Left H := { results := [], args := [] }

/-- 'airlinelaw41.RefundTells': WHATEVER THE INPUT: true; the input reads as it did. -/
def refundTellsSpec : ChangeSpec := { name := "refundTells", fn := fun _ => fun
  | [d1, d2] => { results := [.lit (.bool true)], args := [d1, d2] }
  | _ => none }
def refundTellsRow : OpenClaim := { program := "ytipmdakhmpaemaa", sum := "0c166e734f96403a3153a902a3a64fbd690a76528b0e6a497f13e050d9d296a2", func := "airline/airlinelaw41.RefundTells", spec := "refundTells", unfollowed := true, recurses := true, apart := false }
def RefundTellsSaid : Prop := refundTellsRow.holds Try.pinned (OpenSpec.ofChange refundTellsSpec)

/-- ITS FALSE NEIGHBOUR: 'it returns false'. Refute it at one input. -/
def refundTellsWrong : ChangeSpec := { name := "refundTells", fn := fun _ => fun
  | [d1, d2] => { results := [.lit (.bool false)], args := [d1, d2] }
  | _ => none }
def RefundTellsWrongFalsely : Prop := refundTellsRow.holds Try.pinned (OpenSpec.ofChange refundTellsWrong)

/-- 'airlinelaw41.RefundApplies': WHATEVER THE INPUT: true; the input reads as it did. -/
def refundAppliesSpec : ChangeSpec := { name := "refundApplies", fn := fun _ => fun
  | [d1, d2] => { results := [.lit (.bool true)], args := [d1, d2] }
  | _ => none }
def refundAppliesRow : OpenClaim := { program := "ytipmdakhmpaemaa", sum := "0c166e734f96403a3153a902a3a64fbd690a76528b0e6a497f13e050d9d296a2", func := "airline/airlinelaw41.RefundApplies", spec := "refundApplies", unfollowed := true, recurses := true, apart := false }
def RefundAppliesSaid : Prop := refundAppliesRow.holds Try.pinned (OpenSpec.ofChange refundAppliesSpec)

/-- ITS FALSE NEIGHBOUR: 'it returns false'. Refute it at one input. -/
def refundAppliesWrong : ChangeSpec := { name := "refundApplies", fn := fun _ => fun
  | [d1, d2] => { results := [.lit (.bool false)], args := [d1, d2] }
  | _ => none }
def RefundAppliesWrongFalsely : Prop := refundAppliesRow.holds Try.pinned (OpenSpec.ofChange refundAppliesWrong)

/-- 'airlinelaw41.RefundFees': WHATEVER THE INPUT: true; the input reads as it did. -/
def refundFeesSpec : ChangeSpec := { name := "refundFees", fn := fun _ => fun
  | [d1, d2] => { results := [.lit (.bool true)], args := [d1, d2] }
  | _ => none }
def refundFeesRow : OpenClaim := { program := "ytipmdakhmpaemaa", sum := "0c166e734f96403a3153a902a3a64fbd690a76528b0e6a497f13e050d9d296a2", func := "airline/airlinelaw41.RefundFees", spec := "refundFees", unfollowed := true, recurses := true, loops := true, apart := false }
def RefundFeesSaid : Prop := refundFeesRow.holds Try.pinned (OpenSpec.ofChange refundFeesSpec)

/-- ITS FALSE NEIGHBOUR: 'it returns false'. Refute it at one input. -/
def refundFeesWrong : ChangeSpec := { name := "refundFees", fn := fun _ => fun
  | [d1, d2] => { results := [.lit (.bool false)], args := [d1, d2] }
  | _ => none }
def RefundFeesWrongFalsely : Prop := refundFeesRow.holds Try.pinned (OpenSpec.ofChange refundFeesWrong)

/-- 'airlinelaw41.RefundSums': WHATEVER THE INPUT: true; the input reads as it did. -/
def refundSumsSpec : ChangeSpec := { name := "refundSums", fn := fun _ => fun
  | [d1, d2, d3] => { results := [.lit (.bool true)], args := [d1, d2, d3] }
  | _ => none }
def refundSumsRow : OpenClaim := { program := "ytipmdakhmpaemaa", sum := "0c166e734f96403a3153a902a3a64fbd690a76528b0e6a497f13e050d9d296a2", func := "airline/airlinelaw41.RefundSums", spec := "refundSums", unfollowed := true, recurses := true, apart := false }
def RefundSumsSaid : Prop := refundSumsRow.holds Try.pinned (OpenSpec.ofChange refundSumsSpec)

/-- ITS FALSE NEIGHBOUR: 'it returns false'. Refute it at one input. -/
def refundSumsWrong : ChangeSpec := { name := "refundSums", fn := fun _ => fun
  | [d1, d2, d3] => { results := [.lit (.bool false)], args := [d1, d2, d3] }
  | _ => none }
def RefundSumsWrongFalsely : Prop := refundSumsRow.holds Try.pinned (OpenSpec.ofChange refundSumsWrong)

/-- 'airlinelaw42.ExchangeDeals': WHATEVER THE INPUT: true; the input reads as it did. -/
def exchangeDealsSpec : ChangeSpec := { name := "exchangeDeals", fn := fun _ => fun
  | [d1, d2, d3] => { results := [.lit (.bool true)], args := [d1, d2, d3] }
  | _ => none }
def exchangeDealsRow : OpenClaim := { program := "ytipmdakhmpaemaa", sum := "0c166e734f96403a3153a902a3a64fbd690a76528b0e6a497f13e050d9d296a2", func := "airline/airlinelaw42.ExchangeDeals", spec := "exchangeDeals", unfollowed := true, recurses := true, apart := false }
def ExchangeDealsSaid : Prop := exchangeDealsRow.holds Try.pinned (OpenSpec.ofChange exchangeDealsSpec)

/-- ITS FALSE NEIGHBOUR: 'it returns false'. Refute it at one input. -/
def exchangeDealsWrong : ChangeSpec := { name := "exchangeDeals", fn := fun _ => fun
  | [d1, d2, d3] => { results := [.lit (.bool false)], args := [d1, d2, d3] }
  | _ => none }
def ExchangeDealsWrongFalsely : Prop := exchangeDealsRow.holds Try.pinned (OpenSpec.ofChange exchangeDealsWrong)

/-- 'airlinelaw42.ExchangeBalances': WHATEVER THE INPUT: true; the input reads as it did. -/
def exchangeBalancesSpec : ChangeSpec := { name := "exchangeBalances", fn := fun _ => fun
  | [d1, d2, d3] => { results := [.lit (.bool true)], args := [d1, d2, d3] }
  | _ => none }
def exchangeBalancesRow : OpenClaim := { program := "ytipmdakhmpaemaa", sum := "0c166e734f96403a3153a902a3a64fbd690a76528b0e6a497f13e050d9d296a2", func := "airline/airlinelaw42.ExchangeBalances", spec := "exchangeBalances", unfollowed := true, recurses := true, apart := false }
def ExchangeBalancesSaid : Prop := exchangeBalancesRow.holds Try.pinned (OpenSpec.ofChange exchangeBalancesSpec)

/-- ITS FALSE NEIGHBOUR: 'it returns false'. Refute it at one input. -/
def exchangeBalancesWrong : ChangeSpec := { name := "exchangeBalances", fn := fun _ => fun
  | [d1, d2, d3] => { results := [.lit (.bool false)], args := [d1, d2, d3] }
  | _ => none }
def ExchangeBalancesWrongFalsely : Prop := exchangeBalancesRow.holds Try.pinned (OpenSpec.ofChange exchangeBalancesWrong)

/-- 'airlinelaw42.ExchangeApplies': WHATEVER THE INPUT: true; the input reads as it did. -/
def exchangeAppliesSpec : ChangeSpec := { name := "exchangeApplies", fn := fun _ => fun
  | [d1, d2, d3] => { results := [.lit (.bool true)], args := [d1, d2, d3] }
  | _ => none }
def exchangeAppliesRow : OpenClaim := { program := "ytipmdakhmpaemaa", sum := "0c166e734f96403a3153a902a3a64fbd690a76528b0e6a497f13e050d9d296a2", func := "airline/airlinelaw42.ExchangeApplies", spec := "exchangeApplies", unfollowed := true, recurses := true, apart := false }
def ExchangeAppliesSaid : Prop := exchangeAppliesRow.holds Try.pinned (OpenSpec.ofChange exchangeAppliesSpec)

/-- ITS FALSE NEIGHBOUR: 'it returns false'. Refute it at one input. -/
def exchangeAppliesWrong : ChangeSpec := { name := "exchangeApplies", fn := fun _ => fun
  | [d1, d2, d3] => { results := [.lit (.bool false)], args := [d1, d2, d3] }
  | _ => none }
def ExchangeAppliesWrongFalsely : Prop := exchangeAppliesRow.holds Try.pinned (OpenSpec.ofChange exchangeAppliesWrong)

/-- 'airlinelaw42.ExchangeOnce': WHATEVER THE INPUT: true; the input reads as it did. -/
def exchangeOnceSpec : ChangeSpec := { name := "exchangeOnce", fn := fun _ => fun
  | [d1, d2, d3] => { results := [.lit (.bool true)], args := [d1, d2, d3] }
  | _ => none }
def exchangeOnceRow : OpenClaim := { program := "ytipmdakhmpaemaa", sum := "0c166e734f96403a3153a902a3a64fbd690a76528b0e6a497f13e050d9d296a2", func := "airline/airlinelaw42.ExchangeOnce", spec := "exchangeOnce", unfollowed := true, recurses := true, apart := false }
def ExchangeOnceSaid : Prop := exchangeOnceRow.holds Try.pinned (OpenSpec.ofChange exchangeOnceSpec)

/-- ITS FALSE NEIGHBOUR: 'it returns false'. Refute it at one input. -/
def exchangeOnceWrong : ChangeSpec := { name := "exchangeOnce", fn := fun _ => fun
  | [d1, d2, d3] => { results := [.lit (.bool false)], args := [d1, d2, d3] }
  | _ => none }
def ExchangeOnceWrongFalsely : Prop := exchangeOnceRow.holds Try.pinned (OpenSpec.ofChange exchangeOnceWrong)

/-- 'airlinelaw42.ExchangeFees': WHATEVER THE INPUT: true; the input reads as it did. -/
def exchangeFeesSpec : ChangeSpec := { name := "exchangeFees", fn := fun _ => fun
  | [d1, d2] => { results := [.lit (.bool true)], args := [d1, d2] }
  | _ => none }
def exchangeFeesRow : OpenClaim := { program := "ytipmdakhmpaemaa", sum := "0c166e734f96403a3153a902a3a64fbd690a76528b0e6a497f13e050d9d296a2", func := "airline/airlinelaw42.ExchangeFees", spec := "exchangeFees", unfollowed := true, recurses := true, loops := true, apart := false }
def ExchangeFeesSaid : Prop := exchangeFeesRow.holds Try.pinned (OpenSpec.ofChange exchangeFeesSpec)

/-- ITS FALSE NEIGHBOUR: 'it returns false'. Refute it at one input. -/
def exchangeFeesWrong : ChangeSpec := { name := "exchangeFees", fn := fun _ => fun
  | [d1, d2] => { results := [.lit (.bool false)], args := [d1, d2] }
  | _ => none }
def ExchangeFeesWrongFalsely : Prop := exchangeFeesRow.holds Try.pinned (OpenSpec.ofChange exchangeFeesWrong)

/- THE SECOND FORM. 'bulk': how many values and letters a reading holds, each counted each time it is reached (what is shared counts as often as it is met; a slice's spare places count too). A statement '..UptoSaid' is the law's where the arguments, and the package variables that the reading takes, are together of bulk at most 1048576: NARROWER than '..Said'. Prove '..Said' where nothing that the law and all that it calls make is longer than what came in: it says more and counts as full. Else prove '..UptoSaid'. A law counts once. -/
mutual
def uptoBulk {H : Type} : DataW H → Nat
  | .lit (.string bytes) => bytes.length + 1
  | .lit _ => 1
  | .nil => 1
  | .ptr d => uptoBulk d + 1
  | .slice elems spare => uptoBulkAll elems + uptoBulkAll spare + 1
  | .agg parts => uptoBulkAll parts + 1
  | .iface _ d => uptoBulk d + 1
  | .map entries => uptoBulkEntries entries + 1
  | .held _ => 1
def uptoBulkAll {H : Type} : List (DataW H) → Nat
  | [] => 0
  | d :: r => uptoBulk d + uptoBulkAll r
def uptoBulkEntries {H : Type} : List (Lit × DataW H) → Nat
  | [] => 0
  | x :: r => uptoBulkEntry x + uptoBulkEntries r
def uptoBulkEntry {H : Type} : Lit × DataW H → Nat
  | (.string bytes, d) => bytes.length + uptoBulk d + 1
  | (_, d) => uptoBulk d + 1
 end
def uptoSmall : (H : Type) → List (DataW H) → Bool := fun _ ds => decide (uptoBulkAll ds ≤ 1048576)
def OpenSpec.upto (s : _root_.Go.ChangeSpec) : _root_.Go.OpenSpec := { _root_.Go.OpenSpec.ofChange s with cond := some uptoSmall }

/-- 'airlinelaw41.RefundTells', WHERE WHAT IT READS IS OF BULK AT MOST 1048576: true; the input reads as it did. -/
def refundTellsUptoRow : OpenClaim := { program := "ytipmdakhmpaemaa", sum := "0c166e734f96403a3153a902a3a64fbd690a76528b0e6a497f13e050d9d296a2", func := "airline/airlinelaw41.RefundTells", spec := "refundTells", unfollowed := true, recurses := true, apart := false, narrowed := true }
def RefundTellsUptoSaid : Prop := refundTellsUptoRow.holds Try.pinned (OpenSpec.upto refundTellsSpec)

/-- 'airlinelaw41.RefundApplies', WHERE WHAT IT READS IS OF BULK AT MOST 1048576: true; the input reads as it did. -/
def refundAppliesUptoRow : OpenClaim := { program := "ytipmdakhmpaemaa", sum := "0c166e734f96403a3153a902a3a64fbd690a76528b0e6a497f13e050d9d296a2", func := "airline/airlinelaw41.RefundApplies", spec := "refundApplies", unfollowed := true, recurses := true, apart := false, narrowed := true }
def RefundAppliesUptoSaid : Prop := refundAppliesUptoRow.holds Try.pinned (OpenSpec.upto refundAppliesSpec)

/-- 'airlinelaw41.RefundFees', WHERE WHAT IT READS IS OF BULK AT MOST 1048576: true; the input reads as it did. -/
def refundFeesUptoRow : OpenClaim := { program := "ytipmdakhmpaemaa", sum := "0c166e734f96403a3153a902a3a64fbd690a76528b0e6a497f13e050d9d296a2", func := "airline/airlinelaw41.RefundFees", spec := "refundFees", unfollowed := true, recurses := true, loops := true, apart := false, narrowed := true }
def RefundFeesUptoSaid : Prop := refundFeesUptoRow.holds Try.pinned (OpenSpec.upto refundFeesSpec)

/-- 'airlinelaw41.RefundSums', WHERE WHAT IT READS IS OF BULK AT MOST 1048576: true; the input reads as it did. -/
def refundSumsUptoRow : OpenClaim := { program := "ytipmdakhmpaemaa", sum := "0c166e734f96403a3153a902a3a64fbd690a76528b0e6a497f13e050d9d296a2", func := "airline/airlinelaw41.RefundSums", spec := "refundSums", unfollowed := true, recurses := true, apart := false, narrowed := true }
def RefundSumsUptoSaid : Prop := refundSumsUptoRow.holds Try.pinned (OpenSpec.upto refundSumsSpec)

/-- 'airlinelaw42.ExchangeDeals', WHERE WHAT IT READS IS OF BULK AT MOST 1048576: true; the input reads as it did. -/
def exchangeDealsUptoRow : OpenClaim := { program := "ytipmdakhmpaemaa", sum := "0c166e734f96403a3153a902a3a64fbd690a76528b0e6a497f13e050d9d296a2", func := "airline/airlinelaw42.ExchangeDeals", spec := "exchangeDeals", unfollowed := true, recurses := true, apart := false, narrowed := true }
def ExchangeDealsUptoSaid : Prop := exchangeDealsUptoRow.holds Try.pinned (OpenSpec.upto exchangeDealsSpec)

/-- 'airlinelaw42.ExchangeBalances', WHERE WHAT IT READS IS OF BULK AT MOST 1048576: true; the input reads as it did. -/
def exchangeBalancesUptoRow : OpenClaim := { program := "ytipmdakhmpaemaa", sum := "0c166e734f96403a3153a902a3a64fbd690a76528b0e6a497f13e050d9d296a2", func := "airline/airlinelaw42.ExchangeBalances", spec := "exchangeBalances", unfollowed := true, recurses := true, apart := false, narrowed := true }
def ExchangeBalancesUptoSaid : Prop := exchangeBalancesUptoRow.holds Try.pinned (OpenSpec.upto exchangeBalancesSpec)

/-- 'airlinelaw42.ExchangeApplies', WHERE WHAT IT READS IS OF BULK AT MOST 1048576: true; the input reads as it did. -/
def exchangeAppliesUptoRow : OpenClaim := { program := "ytipmdakhmpaemaa", sum := "0c166e734f96403a3153a902a3a64fbd690a76528b0e6a497f13e050d9d296a2", func := "airline/airlinelaw42.ExchangeApplies", spec := "exchangeApplies", unfollowed := true, recurses := true, apart := false, narrowed := true }
def ExchangeAppliesUptoSaid : Prop := exchangeAppliesUptoRow.holds Try.pinned (OpenSpec.upto exchangeAppliesSpec)

/-- 'airlinelaw42.ExchangeOnce', WHERE WHAT IT READS IS OF BULK AT MOST 1048576: true; the input reads as it did. -/
def exchangeOnceUptoRow : OpenClaim := { program := "ytipmdakhmpaemaa", sum := "0c166e734f96403a3153a902a3a64fbd690a76528b0e6a497f13e050d9d296a2", func := "airline/airlinelaw42.ExchangeOnce", spec := "exchangeOnce", unfollowed := true, recurses := true, apart := false, narrowed := true }
def ExchangeOnceUptoSaid : Prop := exchangeOnceUptoRow.holds Try.pinned (OpenSpec.upto exchangeOnceSpec)

/-- 'airlinelaw42.ExchangeFees', WHERE WHAT IT READS IS OF BULK AT MOST 1048576: true; the input reads as it did. -/
def exchangeFeesUptoRow : OpenClaim := { program := "ytipmdakhmpaemaa", sum := "0c166e734f96403a3153a902a3a64fbd690a76528b0e6a497f13e050d9d296a2", func := "airline/airlinelaw42.ExchangeFees", spec := "exchangeFees", unfollowed := true, recurses := true, loops := true, apart := false, narrowed := true }
def ExchangeFeesUptoSaid : Prop := exchangeFeesUptoRow.holds Try.pinned (OpenSpec.upto exchangeFeesSpec)

end Rows
end Go.Proofs.Ytipmdakhmpaemaa
