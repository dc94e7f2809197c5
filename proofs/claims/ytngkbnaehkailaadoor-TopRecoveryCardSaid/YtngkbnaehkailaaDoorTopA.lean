import Derived.Test.YtngkbnaehkailaaDoorRsC
import Derived.Test.YtngkbnaehkailaaDoorPlan
import Derived.Test.YtngkbnaehkailaaDoorTopP
import Derived.Test.YtngkbnaehkailaaDoorAwZ
namespace Go.Proofs.YtngkbnaehkailaaDoor
open Go Go.RowKit Eng
set_option linter.unusedVariables false
set_option linter.unusedSimpArgs false

theorem both1 {w0 w : World} {H : Heap} (h : HeapOk w0 H w) (i : Nat) {base n cap sz : Nat} {ao : Option Addr} {t : TypeId} {xs : List Value} {y : Eng.Item} (hi : H[i]? = some (Item.both (.own base ao n cap t sz xs) y)) : w.ownsRow base t sz (.slice ao n cap) n xs := (h.mem hi).1
theorem both2 {w0 w : World} {H : Heap} (h : HeapOk w0 H w) (i : Nat) {base n cap sz : Nat} {ao : Option Addr} {t : TypeId} {xs : List Value} {y : Eng.Item} (hi : H[i]? = some (Item.both y (.own base ao n cap t sz xs))) : w.ownsRow base t sz (.slice ao n cap) n xs := (h.mem hi).2
set_option maxHeartbeats 4000000 in
set_option maxRecDepth 100000 in
theorem top_bad (w0 : World) (l : List Pa) (la : Option Addr) (m lc : Nat) (hm : m = l.length) (hI : ∀ i, i < m → SliceIn w0 2 (nth l i).2.2.ao (nth l i).2.2.l.length (nth l i).2.2.cap (rowsF enc77 (nth l i).2.2.l)) (sL : SliceIn w0 3 la m lc (rowsF enc55 l)) (c : List Int) (ca : Option Addr) (q cc : Nat) (hq : q = c.length) (sC : SliceIn w0 1 ca q cc (rowsF encI c)) (hT : LenIn w0) (hbad : rchk l c ≠ 0) : FnC Tryd.prog 3 [.slice la m lc, .slice ca q cc] w0 fun v w' => v = .bool true := by
  have hmB : (m : Int) ≤ 9223372036854775807 := by
    have h1 := sL.le; have h2 := sL.max; simp only [maxLen] at h2; omega
  have hIb : ∀ i, i < m → ((nth l i).2.2.l.length : Int) ≤ 9223372036854775807 := fun i hi => by
    have h1 := (hI i hi).le; have h2 := (hI i hi).max; simp only [maxLen] at h2; omega
  refine fnc (N := 219) Tryd.func3 rfl rfl rfl ?_
  refine WC.seq ?_
  refine WC.region ?_
  refine SL.pure rfl rfl rfl (PureOp.assign rfl) ?_
  refine SL.nil_then ?_
  refine WC.seq ?_
  refine WC.seq ?_
  refine WC.region ?_
  refine SL.pure rfl rfl rfl (PureOp.move rfl) ?_
  refine SL.pure rfl rfl rfl (PureOp.len rfl Tryd.underlying22) ?_
  refine SL.pure rfl rfl rfl (PureOp.gtr rfl rfl) ?_
  refine SL.pure rfl rfl rfl (PureOp.move rfl) ?_
  refine SL.newg 26 false rfl ?_
  refine SL.gpure (c := 1) rfl rfl rfl rfl rfl rfl rfl (PureOp.move rfl) ?_
  refine SL.gpure (c := 1) rfl rfl rfl rfl rfl rfl rfl (PureOp.len rfl Tryd.underlying23) ?_
  refine SL.gpure (c := 1) rfl rfl rfl rfl rfl rfl rfl (PureOp.gtr rfl rfl) ?_
  refine SL.pure rfl rfl rfl (PureOp.or_ rfl rfl rfl rfl) ?_
  refine SL.nil_then ?_
  refine WC.cond rfl (fun h1 => ?_) (fun h1 => ?_)
  · try simp only [Bool.and_eq_true, Bool.or_eq_true, Bool.not_eq_true', Bool.not_eq_false', Bool.and_eq_false_iff, Bool.or_eq_false_iff, decide_eq_true_eq, decide_eq_false_iff_not, Int.not_lt, Int.not_le, ne_eq, Decidable.not_not] at h1
    refine WC.seq ?_
    refine WC.region ?_
    refine SL.calle rfl rfl rfl rfl rfl rfl callable4 (fun w hw => awake_ok w (hT.below hw.below)) ?_
    refine SL.norm [] rfl ?_
    refine SL.pure rfl rfl rfl (PureOp.assign rfl) ?_
    refine SL.nil_then ?_
    refine WC.ret ?_
    refine QX.ret_then ?_
    refine QX.ret1 rfl rfl ?_
    intro w hw
    rfl
  · try simp only [Bool.and_eq_true, Bool.or_eq_true, Bool.not_eq_true', Bool.not_eq_false', Bool.and_eq_false_iff, Bool.or_eq_false_iff, decide_eq_true_eq, decide_eq_false_iff_not, Int.not_lt, Int.not_le, ne_eq, Decidable.not_not] at h1
    refine WC.skip ?_
    refine QX.then_ ?_
    refine WC.seq ?_
    refine WC.seq ?_
    refine WC.region ?_
    refine SL.pure rfl rfl rfl (PureOp.assign rfl) ?_
    refine SL.nil_then ?_
    refine WC.block ?_
    refine WC.loop (σ := Nat) (fun q_ => [(0, 0, .slice la m lc), (1, 0, .slice ca q cc), (23, 0, .slice la m lc), (24, 0, .int .i64 ((m : Nat) : Int)), (25, 0, .bool (decide (5 < ((m : Nat) : Int)))), (26, 0, .bool (decide (5 < ((m : Nat) : Int)))), (30, 0, .bool ((decide (5 < ((m : Nat) : Int))) || (decide (5 < ((q : Nat) : Int))))), (5, 0, .int .i64 ((q_ : Nat) : Int))]) (fun q_ => []) (fun q_ => q_ ≤ m) (fun q_ => m - q_) 0 (0) (Nat.zero_le _) ⟨rfl, rfl, rfl, rfl, rfl, rfl, rfl, rfl, rfl, rfl, rfl, rfl, rfl, rfl, rfl, rfl, trivial⟩ rfl ?_
    rintro k hk
    refine WC.seq ?_
    refine WC.seq ?_
    refine WC.region ?_
    refine SL.pure rfl rfl rfl (PureOp.move rfl) ?_
    refine SL.pure rfl rfl rfl (PureOp.move rfl) ?_
    refine SL.pure rfl rfl rfl (PureOp.len rfl Tryd.underlying22) ?_
    refine SL.pure rfl rfl rfl (PureOp.lss rfl rfl) ?_
    refine SL.nil_then ?_
    refine WC.cond rfl (fun h2 => ?_) (fun h2 => ?_)
    · try simp only [Bool.and_eq_true, Bool.or_eq_true, Bool.not_eq_true', Bool.not_eq_false', Bool.and_eq_false_iff, Bool.or_eq_false_iff, decide_eq_true_eq, decide_eq_false_iff_not, Int.not_lt, Int.not_le, ne_eq, Decidable.not_not] at h2
      refine WC.skip ?_
      refine QX.then_ ?_
      refine WC.seq ?_
      refine WC.block ?_
      refine WC.seq ?_
      refine WC.region ?_
      refine SL.pure rfl rfl rfl (PureOp.move rfl) ?_
      refine SL.pure rfl rfl rfl (PureOp.move rfl) ?_
      refine SL.pure rfl rfl rfl (PureOp.indexAddrN Tryd.underlying22 sz27 rfl rfl (AoOk.in_ sL) (fun _ => by omega)) ?_
      refine SL.pure rfl rfl rfl (PureOp.fieldAddr 2 Tryd.underlying27 rfl rfl sz25 rfl) ?_
      refine SL.pure rfl rfl rfl (PureOp.load (v := .slice ((nth l k).2.2.ao) ((nth l k).2.2.l.length) ((nth l k).2.2.cap)) Tryd.underlying25 rfl rfl (fun _ => (CellIs.in_ sL k 2 (by omega) (by omega)))) ?_
      refine SL.pure rfl rfl rfl (PureOp.len rfl Tryd.underlying25) ?_
      refine SL.pure rfl rfl rfl (PureOp.gtr rfl rfl) ?_
      refine SL.nil_then ?_
      refine WC.cond rfl (fun h3 => ?_) (fun h3 => ?_)
      · try simp only [Bool.and_eq_true, Bool.or_eq_true, Bool.not_eq_true', Bool.not_eq_false', Bool.and_eq_false_iff, Bool.or_eq_false_iff, decide_eq_true_eq, decide_eq_false_iff_not, Int.not_lt, Int.not_le, ne_eq, Decidable.not_not] at h3
        refine WC.seq ?_
        refine WC.region ?_
        refine SL.calle rfl rfl rfl rfl rfl rfl callable4 (fun w hw => awake_ok w (hT.below hw.below)) ?_
        refine SL.norm [] rfl ?_
        refine SL.pure rfl rfl rfl (PureOp.assign rfl) ?_
        refine SL.nil_then ?_
        refine WC.ret ?_
        refine QX.ret_in ?_
        refine QX.ret_then ?_
        refine QX.ret_then ?_
        refine QX.ret_in ?_
        refine QX.ret_then ?_
        refine QX.ret1 rfl rfl ?_
        intro w hw
        rfl
      · try simp only [Bool.and_eq_true, Bool.or_eq_true, Bool.not_eq_true', Bool.not_eq_false', Bool.and_eq_false_iff, Bool.or_eq_false_iff, decide_eq_true_eq, decide_eq_false_iff_not, Int.not_lt, Int.not_le, ne_eq, Decidable.not_not] at h3
        refine WC.skip ?_
        refine QX.normal_in ?_
        refine QX.then_ ?_
        refine WC.region ?_
        refine SL.pure rfl rfl rfl (PureOp.move rfl) ?_
        refine SL.pure rfl rfl rfl (PureOp.addN (k := 1) rfl rfl (fun _ => by omega)) ?_
        refine SL.pure rfl rfl rfl (PureOp.assign rfl) ?_
        refine SL.nil ?_
        refine QX.round 0 (k + 1) ⟨(by first | omega | (dsimp only; omega)), by first | omega | (dsimp only; omega)⟩ ⟨rfl, rfl, rfl, rfl, rfl, rfl, rfl, rfl, rfl, rfl, rfl, rfl, rfl, rfl, rfl, rfl, trivial⟩ rfl
    · try simp only [Bool.and_eq_true, Bool.or_eq_true, Bool.not_eq_true', Bool.not_eq_false', Bool.and_eq_false_iff, Bool.or_eq_false_iff, decide_eq_true_eq, decide_eq_false_iff_not, Int.not_lt, Int.not_le, ne_eq, Decidable.not_not] at h2
      refine WC.exit ?_
      refine QX.exit_then ?_
      refine QX.exit_then ?_
      refine QX.exit_hit ?_
      refine QX.then_ ?_
      refine WC.seq ?_
      refine WC.region ?_
      refine SL.pure rfl rfl rfl (PureOp.move rfl) ?_
      refine SL.pure rfl rfl rfl (PureOp.move rfl) ?_
      refine SL.calle rfl rfl rfl rfl rfl rfl callable5 (fun w hw => psolve52_bad w l la m lc hm (fun i hi => (hI i hi).below hw.below) (sL.below hw.below) c ca q cc hq (sC.below hw.below) hbad) ?_
      refine SL.norm [] rfl ?_
      refine SL.pure rfl rfl rfl (PureOp.move rfl) ?_
      refine SL.pure rfl rfl rfl (PureOp.extract rfl rfl) ?_
      refine SL.pure rfl rfl rfl (PureOp.extract rfl rfl) ?_
      refine SL.pure rfl rfl rfl (PureOp.assign rfl) ?_
      refine SL.pure rfl rfl rfl (PureOp.assign rfl) ?_
      refine SL.nil_then ?_
      refine WC.seq ?_
      refine WC.seq ?_
      refine WC.region ?_
      refine SL.pure rfl rfl rfl (PureOp.move rfl) ?_
      refine SL.pure rfl rfl rfl (PureOp.neq rfl rfl) ?_
      refine SL.lit 53 true rfl (decide_eq_true hbad) ?_
      refine SL.nil_then ?_
      refine WC.condT rfl ?_
      refine WC.seq ?_
      refine WC.region ?_
      refine SL.pure rfl rfl rfl (PureOp.move rfl) ?_
      refine SL.pure rfl rfl rfl (PureOp.move rfl) ?_
      refine SL.pure rfl rfl rfl (PureOp.move rfl) ?_
      refine SL.calle rfl rfl rfl rfl rfl rfl callable6 (fun w hw => pcheck52_ok w l la m lc hm (fun i hi => (hI i hi).below hw.below) (sL.below hw.below) c ca q cc hq (sC.below hw.below)) ?_
      refine SL.norm [] rfl ?_
      refine SL.pure rfl rfl rfl (PureOp.eql rfl rfl) ?_
      refine SL.lit 58 true rfl (by simp) ?_
      refine SL.pure rfl rfl rfl (PureOp.move rfl) ?_
      refine SL.ung rfl rfl rfl rfl ?_
      refine SL.calle rfl rfl rfl rfl rfl rfl callable4 (fun w hw => awake_ok w (hT.below hw.below)) ?_
      refine SL.norm [] rfl ?_
      refine SL.pure rfl rfl rfl (PureOp.pickT rfl rfl) ?_
      refine SL.pure rfl rfl rfl (PureOp.assign rfl) ?_
      refine SL.nil_then ?_
      refine WC.ret ?_
      refine QX.ret_then ?_
      refine QX.ret1 rfl rfl ?_
      intro w hw
      rfl

set_option maxHeartbeats 4000000 in
set_option maxRecDepth 100000 in
theorem top_ok (w0 : World) (l : List Pa) (la : Option Addr) (m lc : Nat) (hm : m = l.length) (hI : ∀ i, i < m → SliceIn w0 2 (nth l i).2.2.ao (nth l i).2.2.l.length (nth l i).2.2.cap (rowsF enc77 (nth l i).2.2.l)) (sL : SliceIn w0 3 la m lc (rowsF enc55 l)) (c : List Int) (ca : Option Addr) (q cc : Nat) (hq : q = c.length) (sC : SliceIn w0 1 ca q cc (rowsF encI c)) (hT : LenIn w0) (hok : rchk l c = 0) (hS : wayS l m ≤ 1024) (K0 : Nat) (R : List Int × Int × Int) (hR : slv (edO m q l c m) ((m : Int) + (q : Int) + 1 + 1).toNat 0 ((m : Int) + (q : Int) + 1) (peoT l m) K0 (List.replicate (edO m q l c m).length 0) 0 0 = some R) (hB : Best (edO m q l c m) (m + q + 2) 0 (m + q + 1) (peoT l m) R) (K1 : Nat) (S : List Int × Int × Int) (hck2 : checkE (2 + (m : Int) + (q : Int)) (edU m q l c q) 0 (2 + (m : Int) + (q : Int) - 1) = 0) (hs : slv (edU m q l c q) (2 + (m : Int) + (q : Int)).toNat 0 (2 + (m : Int) + (q : Int) - 1) (peoT l m) K1 (List.replicate (edU m q l c q).length 0) 0 0 = some S) (h1S : S.2.1 = R.2.1) (h2S : S.2.2 = R.2.2) (hSl : S.1.length = (edU m q l c q).length) (hp : (pricesF (2 + (m : Int) + (q : Int)) (edU m q l c q) S.1).2 = true) (hpp : provesB (2 + (m : Int) + (q : Int)) (edU m q l c q) S.1 (pricesF (2 + (m : Int) + (q : Int)) (edU m q l c q) S.1).1 = true) : FnC Tryd.prog 3 [.slice la m lc, .slice ca q cc] w0 fun v w' => v = .bool true := by
  have hmB : (m : Int) ≤ 9223372036854775807 := by
    have h1 := sL.le; have h2 := sL.max; simp only [maxLen] at h2; omega
  have hIb : ∀ i, i < m → ((nth l i).2.2.l.length : Int) ≤ 9223372036854775807 := fun i hi => by
    have h1 := (hI i hi).le; have h2 := (hI i hi).max; simp only [maxLen] at h2; omega
  have hOk := PaOk.of hok
  have hnl := hOk.nl
  have hnc := hOk.nc
  have hRl : R.1.length = m + q + wayS l m := by rw [hB.feas.len, edO_len]
  have hpt := peoT_bd (l := l) m (fun k hk => hOk.cnt k (by omega))
  refine fnc (N := 219) Tryd.func3 rfl rfl rfl ?_
  refine WC.seq ?_
  refine WC.region ?_
  refine SL.pure rfl rfl rfl (PureOp.assign rfl) ?_
  refine SL.nil_then ?_
  refine WC.seq ?_
  refine WC.seq ?_
  refine WC.region ?_
  refine SL.pure rfl rfl rfl (PureOp.move rfl) ?_
  refine SL.pure rfl rfl rfl (PureOp.len rfl Tryd.underlying22) ?_
  refine SL.pure rfl rfl rfl (PureOp.gtr rfl rfl) ?_
  refine SL.pure rfl rfl rfl (PureOp.move rfl) ?_
  refine SL.newg 26 false rfl ?_
  refine SL.gpure (c := 1) rfl rfl rfl rfl rfl rfl rfl (PureOp.move rfl) ?_
  refine SL.gpure (c := 1) rfl rfl rfl rfl rfl rfl rfl (PureOp.len rfl Tryd.underlying23) ?_
  refine SL.gpure (c := 1) rfl rfl rfl rfl rfl rfl rfl (PureOp.gtr rfl rfl) ?_
  refine SL.pure rfl rfl rfl (PureOp.or_ rfl rfl rfl rfl) ?_
  refine SL.nil_then ?_
  refine WC.cond rfl (fun h1 => ?_) (fun h1 => ?_)
  · try simp only [Bool.and_eq_true, Bool.or_eq_true, Bool.not_eq_true', Bool.not_eq_false', Bool.and_eq_false_iff, Bool.or_eq_false_iff, decide_eq_true_eq, decide_eq_false_iff_not, Int.not_lt, Int.not_le, ne_eq, Decidable.not_not] at h1
    refine WC.seq ?_
    refine WC.region ?_
    refine SL.calle rfl rfl rfl rfl rfl rfl callable4 (fun w hw => awake_ok w (hT.below hw.below)) ?_
    refine SL.norm [] rfl ?_
    refine SL.pure rfl rfl rfl (PureOp.assign rfl) ?_
    refine SL.nil_then ?_
    refine WC.ret ?_
    refine QX.ret_then ?_
    refine QX.ret1 rfl rfl ?_
    intro w hw
    rfl
  · try simp only [Bool.and_eq_true, Bool.or_eq_true, Bool.not_eq_true', Bool.not_eq_false', Bool.and_eq_false_iff, Bool.or_eq_false_iff, decide_eq_true_eq, decide_eq_false_iff_not, Int.not_lt, Int.not_le, ne_eq, Decidable.not_not] at h1
    refine WC.skip ?_
    refine QX.then_ ?_
    refine WC.seq ?_
    refine WC.seq ?_
    refine WC.region ?_
    refine SL.pure rfl rfl rfl (PureOp.assign rfl) ?_
    refine SL.nil_then ?_
    refine WC.block ?_
    refine WC.loop (σ := Nat) (fun q_ => [(0, 0, .slice la m lc), (1, 0, .slice ca q cc), (23, 0, .slice la m lc), (24, 0, .int .i64 ((m : Nat) : Int)), (25, 0, .bool (decide (5 < ((m : Nat) : Int)))), (26, 0, .bool (decide (5 < ((m : Nat) : Int)))), (30, 0, .bool ((decide (5 < ((m : Nat) : Int))) || (decide (5 < ((q : Nat) : Int))))), (5, 0, .int .i64 ((q_ : Nat) : Int))]) (fun q_ => []) (fun q_ => q_ ≤ m) (fun q_ => m - q_) 0 (0) (Nat.zero_le _) ⟨rfl, rfl, rfl, rfl, rfl, rfl, rfl, rfl, rfl, rfl, rfl, rfl, rfl, rfl, rfl, rfl, trivial⟩ rfl ?_
    rintro k hk
    refine WC.seq ?_
    refine WC.seq ?_
    refine WC.region ?_
    refine SL.pure rfl rfl rfl (PureOp.move rfl) ?_
    refine SL.pure rfl rfl rfl (PureOp.move rfl) ?_
    refine SL.pure rfl rfl rfl (PureOp.len rfl Tryd.underlying22) ?_
    refine SL.pure rfl rfl rfl (PureOp.lss rfl rfl) ?_
    refine SL.nil_then ?_
    refine WC.cond rfl (fun h2 => ?_) (fun h2 => ?_)
    · try simp only [Bool.and_eq_true, Bool.or_eq_true, Bool.not_eq_true', Bool.not_eq_false', Bool.and_eq_false_iff, Bool.or_eq_false_iff, decide_eq_true_eq, decide_eq_false_iff_not, Int.not_lt, Int.not_le, ne_eq, Decidable.not_not] at h2
      refine WC.skip ?_
      refine QX.then_ ?_
      refine WC.seq ?_
      refine WC.block ?_
      refine WC.seq ?_
      refine WC.region ?_
      refine SL.pure rfl rfl rfl (PureOp.move rfl) ?_
      refine SL.pure rfl rfl rfl (PureOp.move rfl) ?_
      refine SL.pure rfl rfl rfl (PureOp.indexAddrN Tryd.underlying22 sz27 rfl rfl (AoOk.in_ sL) (fun _ => by omega)) ?_
      refine SL.pure rfl rfl rfl (PureOp.fieldAddr 2 Tryd.underlying27 rfl rfl sz25 rfl) ?_
      refine SL.pure rfl rfl rfl (PureOp.load (v := .slice ((nth l k).2.2.ao) ((nth l k).2.2.l.length) ((nth l k).2.2.cap)) Tryd.underlying25 rfl rfl (fun _ => (CellIs.in_ sL k 2 (by omega) (by omega)))) ?_
      refine SL.pure rfl rfl rfl (PureOp.len rfl Tryd.underlying25) ?_
      refine SL.pure rfl rfl rfl (PureOp.gtr rfl rfl) ?_
      refine SL.nil_then ?_
      refine WC.cond rfl (fun h3 => ?_) (fun h3 => ?_)
      · try simp only [Bool.and_eq_true, Bool.or_eq_true, Bool.not_eq_true', Bool.not_eq_false', Bool.and_eq_false_iff, Bool.or_eq_false_iff, decide_eq_true_eq, decide_eq_false_iff_not, Int.not_lt, Int.not_le, ne_eq, Decidable.not_not] at h3
        refine WC.seq ?_
        refine WC.region ?_
        refine SL.calle rfl rfl rfl rfl rfl rfl callable4 (fun w hw => awake_ok w (hT.below hw.below)) ?_
        refine SL.norm [] rfl ?_
        refine SL.pure rfl rfl rfl (PureOp.assign rfl) ?_
        refine SL.nil_then ?_
        refine WC.ret ?_
        refine QX.ret_in ?_
        refine QX.ret_then ?_
        refine QX.ret_then ?_
        refine QX.ret_in ?_
        refine QX.ret_then ?_
        refine QX.ret1 rfl rfl ?_
        intro w hw
        rfl
      · try simp only [Bool.and_eq_true, Bool.or_eq_true, Bool.not_eq_true', Bool.not_eq_false', Bool.and_eq_false_iff, Bool.or_eq_false_iff, decide_eq_true_eq, decide_eq_false_iff_not, Int.not_lt, Int.not_le, ne_eq, Decidable.not_not] at h3
        refine WC.skip ?_
        refine QX.normal_in ?_
        refine QX.then_ ?_
        refine WC.region ?_
        refine SL.pure rfl rfl rfl (PureOp.move rfl) ?_
        refine SL.pure rfl rfl rfl (PureOp.addN (k := 1) rfl rfl (fun _ => by omega)) ?_
        refine SL.pure rfl rfl rfl (PureOp.assign rfl) ?_
        refine SL.nil ?_
        refine QX.round 0 (k + 1) ⟨(by first | omega | (dsimp only; omega)), by first | omega | (dsimp only; omega)⟩ ⟨rfl, rfl, rfl, rfl, rfl, rfl, rfl, rfl, rfl, rfl, rfl, rfl, rfl, rfl, rfl, rfl, trivial⟩ rfl
    · try simp only [Bool.and_eq_true, Bool.or_eq_true, Bool.not_eq_true', Bool.not_eq_false', Bool.and_eq_false_iff, Bool.or_eq_false_iff, decide_eq_true_eq, decide_eq_false_iff_not, Int.not_lt, Int.not_le, ne_eq, Decidable.not_not] at h2
      refine WC.exit ?_
      refine QX.exit_then ?_
      refine QX.exit_then ?_
      refine QX.exit_hit ?_
      refine QX.then_ ?_
      refine WC.seq ?_
      refine WC.region ?_
      refine SL.pure rfl rfl rfl (PureOp.move rfl) ?_
      refine SL.pure rfl rfl rfl (PureOp.move rfl) ?_
      refine SL.callo2 (σ := Option Addr × Nat × List (SliceV Int) × Option Addr × Nat) (fun y => .tuple #[.slice y.2.2.2.1 m y.2.2.2.2, .int .i64 0]) (fun y => PlanIs y.1 (m + q + wayS l m) y.2.1 R.1 l (m + q) m y.2.2.1) (fun y => y.2.2.2.1) (fun y => y.1) (fun y => y.2.2.2.2) (fun y => y.2.1) m (m + q + wayS l m) 23 3 1 1 (fun y => cellsOf encSl y.2.2.1) (fun _ => cellsOf encI R.1) rfl rfl rfl rfl rfl rfl callable5 (fun w hw => psolve52_f w l la m lc hm (fun i hi => (hI i hi).below hw.below) (sL.below hw.below) c ca q cc hq (sC.below hw.below) hok hS K0 R hR) ?_
      rintro ⟨fa, fc, P, pa, pc⟩ hP
      have hPl : ∀ t, t < m → (nth P t).l.length = (nth l t).2.2.l.length := fun t ht => by rw [hP.row t ht]; exact chunkS_len ht (by rw [hRl]; exact Nat.le_refl _)
      have hpm : P.length = m := hP.len
      refine SL.norm [_] rfl ?_
      refine SL.pure rfl rfl rfl (PureOp.move rfl) ?_
      refine SL.pure rfl rfl rfl (PureOp.extract rfl rfl) ?_
      refine SL.pure rfl rfl rfl (PureOp.extract rfl rfl) ?_
      refine SL.pure rfl rfl rfl (PureOp.assign rfl) ?_
      refine SL.pure rfl rfl rfl (PureOp.assign rfl) ?_
      refine SL.nil_then ?_
      refine WC.seq ?_
      refine WC.seq ?_
      refine WC.region ?_
      refine SL.pure rfl rfl rfl (PureOp.move rfl) ?_
      refine SL.pure rfl rfl rfl (PureOp.neq rfl rfl) ?_
      refine SL.lit 53 false rfl (by decide) ?_
      refine SL.nil_then ?_
      refine WC.condF rfl ?_
      refine WC.skip ?_
      refine QX.then_ ?_
      refine WC.seq ?_
      refine WC.region ?_
      refine SL.pure rfl rfl rfl (PureOp.move rfl) ?_
      refine SL.pure rfl rfl rfl (PureOp.move rfl) ?_
      refine SL.pure rfl rfl rfl (PureOp.move rfl) ?_
      refine SL.calle rfl rfl rfl rfl rfl rfl callable7 (fun w hw => (by have h := pvalid52_ok w l la m lc hm (fun i hi => (hI i hi).below hw.below) (sL.below hw.below) c ca q cc hq (sC.below hw.below) P pa m pc hP.len.symm (fun t ht => hP.sub t ht w (SliceIn.rows (l := R.1) (both2 hw 0 rfl) encI_len (by rw [hRl]; exact Nat.le_refl _))) ((fun w hw => SliceIn.rows (l := P) (both1 hw 0 rfl) encSl_len (by rw [hP.len]; exact Nat.le_refl _)) w hw) (fun t ht => by have h1 := hPl t ht; have h2 := wayS_at (l := l) ht; omega); rw [plan_is hok hm hq hB hP] at h; exact h)) ?_
      refine SL.norm [_] rfl ?_
      refine SL.pure rfl rfl rfl (PureOp.move rfl) ?_
      refine SL.pure rfl rfl rfl (PureOp.extract rfl rfl) ?_
      refine SL.pure rfl rfl rfl (PureOp.extract rfl rfl) ?_
      refine SL.pure rfl rfl rfl (PureOp.extract rfl rfl) ?_
      refine SL.pure rfl rfl rfl (PureOp.assign rfl) ?_
      refine SL.pure rfl rfl rfl (PureOp.assign rfl) ?_
      refine SL.pure rfl rfl rfl (PureOp.assign rfl) ?_
      refine SL.nil_then ?_
      refine WC.seq ?_
      refine WC.seq ?_
      refine WC.region ?_
      refine SL.pure rfl rfl rfl (PureOp.move rfl) ?_
      refine SL.pure rfl rfl rfl (PureOp.neq rfl rfl) ?_
      refine SL.lit 71 false rfl (by simp) ?_
      refine SL.nil_then ?_
      refine WC.condF rfl ?_
      refine WC.skip ?_
      refine QX.then_ ?_
      refine WC.seq ?_
      refine WC.region ?_
      refine SL.addnil 37 4 ?_
      refine SL.pure rfl rfl rfl (PureOp.assign rfl) ?_
      refine SL.nil_then ?_
      refine WC.seq ?_
      refine WC.region ?_
      refine SL.pure rfl rfl rfl (PureOp.assign rfl) ?_
      refine SL.nil_then ?_
      refine WC.seq ?_
      refine WC.seq ?_
      refine WC.region ?_
      refine SL.pure rfl rfl rfl (PureOp.assign rfl) ?_
      refine SL.nil_then ?_
      refine WC.block ?_
      refine WC.loop (σ := Nat × Option Addr × Nat) (fun q_ => [(0, 0, .slice la m lc), (1, 0, .slice ca q cc), (5, 0, .int .i64 ((k : Nat) : Int)), (6, 0, .slice pa m pc), (7, 0, .int .i64 0), (8, 0, .int .i64 R.2.1), (9, 0, .int .i64 R.2.2), (10, 0, .int .i64 0), (23, 0, .slice la m lc), (24, 0, .int .i64 ((m : Nat) : Int)), (25, 0, .bool (decide (5 < ((m : Nat) : Int)))), (26, 0, .bool (decide (5 < ((m : Nat) : Int)))), (30, 0, .bool ((decide (5 < ((m : Nat) : Int))) || (decide (5 < ((q : Nat) : Int))))), (32, 0, .int .i64 ((k : Nat) : Int)), (33, 0, .slice la m lc), (34, 0, .int .i64 ((m : Nat) : Int)), (35, 0, .bool (decide (((k : Nat) : Int) < ((m : Nat) : Int)))), (46, 0, .tuple #[.slice pa m pc, .int .i64 0]), (47, 0, .slice la m lc), (48, 0, .slice ca q cc), (49, 0, .tuple #[.slice pa m pc, .int .i64 0]), (50, 0, .slice pa m pc), (51, 0, .int .i64 0), (52, 0, .int .i64 0), (53, 0, .bool false), (62, 0, .tuple #[.int .i64 R.2.1, .int .i64 R.2.2, .int .i64 0]), (63, 0, .slice la m lc), (64, 0, .slice ca q cc), (65, 0, .slice pa m pc), (66, 0, .tuple #[.int .i64 R.2.1, .int .i64 R.2.2, .int .i64 0]), (67, 0, .int .i64 R.2.1), (68, 0, .int .i64 R.2.2), (69, 0, .int .i64 0), (70, 0, .int .i64 0), (71, 0, .bool false), (13, 0, .int .i64 ((q_.1 : Nat) : Int)), (11, 0, .slice q_.2.1 (q_.1 + wayS l q_.1) q_.2.2), (12, 0, .int .i64 (peoT l q_.1))]) (fun q_ => [Item.both (.own w0.heap.size pa m pc 23 1 (cellsOf encSl P)) (.own w0.heap.size fa (m + q + wayS l m) fc 3 1 (cellsOf encI R.1)), Item.own w0.heap.size q_.2.1 (q_.1 + wayS l q_.1) q_.2.2 37 4 (cellsOf encEd (edT m l q_.1))]) (fun q_ => q_.1 ≤ m) (fun q_ => m - q_.1) 2 ((0, none, 0)) (Nat.zero_le _) ⟨rfl, rfl, rfl, rfl, rfl, rfl, rfl, rfl, rfl, rfl, rfl, rfl, rfl, rfl, rfl, rfl, rfl, rfl, rfl, rfl, rfl, rfl, rfl, rfl, rfl, rfl, rfl, rfl, rfl, rfl, rfl, rfl, rfl, rfl, rfl, rfl, rfl, rfl, rfl, rfl, rfl, rfl, rfl, rfl, rfl, rfl, rfl, rfl, rfl, rfl, rfl, rfl, rfl, rfl, rfl, rfl, rfl, rfl, rfl, rfl, rfl, rfl, rfl, rfl, rfl, rfl, rfl, rfl, rfl, rfl, rfl, rfl, rfl, rfl, rfl, rfl, trivial⟩ rfl ?_
      rintro ⟨i, ie, ic⟩ hi
      try dsimp only at *
      refine WC.seq ?_
      refine WC.seq ?_
      refine WC.region ?_
      refine SL.pure rfl rfl rfl (PureOp.move rfl) ?_
      refine SL.pure rfl rfl rfl (PureOp.move rfl) ?_
      refine SL.pure rfl rfl rfl (PureOp.len rfl Tryd.underlying22) ?_
      refine SL.pure rfl rfl rfl (PureOp.lss rfl rfl) ?_
      refine SL.nil_then ?_
      refine WC.cond rfl (fun h4 => ?_) (fun h4 => ?_)
      · try simp only [Bool.and_eq_true, Bool.or_eq_true, Bool.not_eq_true', Bool.not_eq_false', Bool.and_eq_false_iff, Bool.or_eq_false_iff, decide_eq_true_eq, decide_eq_false_iff_not, Int.not_lt, Int.not_le, ne_eq, Decidable.not_not] at h4
        have hpi := peoT_bd (l := l) i (fun k hk => hOk.cnt k (by omega))
        have hwa := wayS_at (l := l) (i := i) (n := m) (by omega)
        have hci := hOk.cnt i (by omega)
        have hwi := hOk.wt i (by omega)
        refine WC.skip ?_
        refine QX.then_ ?_
        refine WC.seq ?_
        refine WC.block ?_
        refine WC.seq ?_
        refine WC.region ?_
        refine SL.pure rfl rfl rfl (PureOp.move rfl) ?_
        refine SL.pure rfl rfl rfl (PureOp.move rfl) ?_
        refine SL.pure rfl rfl rfl (PureOp.add rfl rfl (fun _ => by omega)) ?_
        refine SL.pure rfl rfl rfl (PureOp.move rfl) ?_
        refine SL.pure rfl rfl rfl (PureOp.move rfl) ?_
        refine SL.pure rfl rfl rfl (PureOp.indexAddrN Tryd.underlying22 sz27 rfl rfl (AoOk.in_ sL) (fun _ => by omega)) ?_
        refine SL.pure rfl rfl rfl (PureOp.fieldAddr 0 Tryd.underlying27 rfl rfl sz3 rfl) ?_
        refine SL.pure rfl rfl rfl (PureOp.load (v := .int .i64 ((nth l i).1)) Tryd.underlying3 rfl rfl (fun _ => (CellIs.in_ sL i 0 (by omega) (by omega)))) ?_
        refine SL.pure rfl rfl rfl (PureOp.build bld37 rfl rfl) ?_
        refine SL.buildSlice rfl rfl Tryd.underlying35 elem37 rfl rfl rfl rfl (fun b1 hb1 => ?_)
        refine SL.norm [_, _, _] rfl ?_
        refine SL.append 1 rfl rfl Tryd.underlying35 elem37 rfl rfl rfl rfl (SrcIs.own 2 rfl) (by rfl) (by omega) (by omega) (fun ao1_ cap1_ => ?_)
        refine SL.itemxs 1 rfl (show _ = cellsOf encEd (edT m l i ++ [(0, 1 + (i : Int), (nth l i).1, 0)]) from by rw [cellsOf_append (l := (edT m l i)), cellsOf_one]; rfl) ?_
        refine SL.norm [_, _, _] rfl ?_
        refine SL.pure rfl rfl rfl (PureOp.assign rfl) ?_
        refine SL.nil_then ?_
        refine WC.seq ?_
        refine WC.region ?_
        refine SL.pure rfl rfl rfl (PureOp.move rfl) ?_
        refine SL.pure rfl rfl rfl (PureOp.move rfl) ?_
        refine SL.pure rfl rfl rfl (PureOp.move rfl) ?_
        refine SL.pure rfl rfl rfl (PureOp.indexAddrN Tryd.underlying22 sz27 rfl rfl (AoOk.in_ sL) (fun _ => by omega)) ?_
        refine SL.pure rfl rfl rfl (PureOp.fieldAddr 0 Tryd.underlying27 rfl rfl sz3 rfl) ?_
        refine SL.pure rfl rfl rfl (PureOp.load (v := .int .i64 ((nth l i).1)) Tryd.underlying3 rfl rfl (fun _ => (CellIs.in_ sL i 0 (by omega) (by omega)))) ?_
        refine SL.pure rfl rfl rfl (PureOp.add rfl rfl (fun _ => by omega)) ?_
        refine SL.pure rfl rfl rfl (PureOp.assign rfl) ?_
        refine SL.nil_then ?_
        refine WC.seq ?_
        refine WC.region ?_
        refine SL.pure rfl rfl rfl (PureOp.assign rfl) ?_
        refine SL.nil_then ?_
        refine WC.block ?_
        refine WC.loop (σ := Nat × Option Addr × Nat) (fun q_ => [(0, 0, .slice la m lc), (1, 0, .slice ca q cc), (5, 0, .int .i64 ((k : Nat) : Int)), (6, 0, .slice pa m pc), (7, 0, .int .i64 0), (8, 0, .int .i64 R.2.1), (9, 0, .int .i64 R.2.2), (10, 0, .int .i64 0), (12, 0, .int .i64 ((peoT l i) + ((nth l i).1))), (13, 0, .int .i64 ((i : Nat) : Int)), (23, 0, .slice la m lc), (24, 0, .int .i64 ((m : Nat) : Int)), (25, 0, .bool (decide (5 < ((m : Nat) : Int)))), (26, 0, .bool (decide (5 < ((m : Nat) : Int)))), (30, 0, .bool ((decide (5 < ((m : Nat) : Int))) || (decide (5 < ((q : Nat) : Int))))), (32, 0, .int .i64 ((k : Nat) : Int)), (33, 0, .slice la m lc), (34, 0, .int .i64 ((m : Nat) : Int)), (35, 0, .bool (decide (((k : Nat) : Int) < ((m : Nat) : Int)))), (46, 0, .tuple #[.slice pa m pc, .int .i64 0]), (47, 0, .slice la m lc), (48, 0, .slice ca q cc), (49, 0, .tuple #[.slice pa m pc, .int .i64 0]), (50, 0, .slice pa m pc), (51, 0, .int .i64 0), (52, 0, .int .i64 0), (53, 0, .bool false), (62, 0, .tuple #[.int .i64 R.2.1, .int .i64 R.2.2, .int .i64 0]), (63, 0, .slice la m lc), (64, 0, .slice ca q cc), (65, 0, .slice pa m pc), (66, 0, .tuple #[.int .i64 R.2.1, .int .i64 R.2.2, .int .i64 0]), (67, 0, .int .i64 R.2.1), (68, 0, .int .i64 R.2.2), (69, 0, .int .i64 0), (70, 0, .int .i64 0), (71, 0, .bool false), (72, 0, .int .i64 ((i : Nat) : Int)), (73, 0, .slice la m lc), (74, 0, .int .i64 ((m : Nat) : Int)), (75, 0, .bool (decide (((i : Nat) : Int) < ((m : Nat) : Int)))), (78, 0, .slice ie (i + wayS l i) ic), (79, 0, .int .i64 ((i : Nat) : Int)), (80, 0, .int .i64 (1 + ((i : Nat) : Int))), (81, 0, .slice la m lc), (82, 0, .int .i64 ((i : Nat) : Int)), (83, 0, .pointer (some ⟨blk la, off la + i * 3, none⟩)), (84, 0, .pointer (some ⟨blk la, off la + i * 3, none⟩)), (85, 0, .int .i64 ((nth l i).1)), (86, 0, .agg #[.int .i64 0, .int .i64 (1 + ((i : Nat) : Int)), .int .i64 ((nth l i).1), .int .i64 0]), (87, 0, .slice (some ⟨b1, 0, none⟩) 1 1), (88, 0, .slice ao1_ ((i + wayS l i) + 1) cap1_), (89, 0, .int .i64 (peoT l i)), (90, 0, .slice la m lc), (91, 0, .int .i64 ((i : Nat) : Int)), (92, 0, .pointer (some ⟨blk la, off la + i * 3, none⟩)), (93, 0, .pointer (some ⟨blk la, off la + i * 3, none⟩)), (94, 0, .int .i64 ((nth l i).1)), (95, 0, .int .i64 ((peoT l i) + ((nth l i).1))), (14, 0, .int .i64 ((q_.1 : Nat) : Int)), (11, 0, .slice q_.2.1 (i + wayS l i + 1 + q_.1) q_.2.2)]) (fun q_ => [Item.both (.own w0.heap.size pa m pc 23 1 (cellsOf encSl P)) (.own w0.heap.size fa (m + q + wayS l m) fc 3 1 (cellsOf encI R.1)), Item.own w0.heap.size q_.2.1 (i + wayS l i + 1 + q_.1) q_.2.2 37 4 (cellsOf encEd (edI m (nth l i) i (edT m l i ++ [(0, 1 + (i : Int), (nth l i).1, 0)]) q_.1)), Item.own w0.heap.size (some ⟨b1, 0, none⟩) 1 1 37 4 ([.int .i64 0, .int .i64 (1 + ((i : Nat) : Int)), .int .i64 ((nth l i).1), .int .i64 0])]) (fun q_ => q_.1 ≤ (nth l i).2.2.l.length) (fun q_ => (nth l i).2.2.l.length - q_.1) 3 ((0, ao1_, cap1_)) (Nat.zero_le _) ⟨rfl, rfl, rfl, rfl, rfl, rfl, rfl, rfl, rfl, rfl, rfl, rfl, rfl, rfl, rfl, rfl, rfl, rfl, rfl, rfl, rfl, rfl, rfl, rfl, rfl, rfl, rfl, rfl, rfl, rfl, rfl, rfl, rfl, rfl, rfl, rfl, rfl, rfl, rfl, rfl, rfl, rfl, rfl, rfl, rfl, rfl, rfl, rfl, rfl, rfl, rfl, rfl, rfl, rfl, rfl, rfl, rfl, rfl, rfl, rfl, rfl, rfl, rfl, rfl, rfl, rfl, rfl, rfl, rfl, rfl, rfl, rfl, rfl, rfl, rfl, rfl, rfl, rfl, rfl, rfl, rfl, rfl, rfl, rfl, rfl, rfl, rfl, rfl, rfl, rfl, rfl, rfl, rfl, rfl, rfl, rfl, rfl, rfl, rfl, rfl, rfl, rfl, rfl, rfl, rfl, rfl, rfl, rfl, rfl, rfl, rfl, rfl, rfl, rfl, rfl, rfl, rfl, rfl, rfl, rfl, rfl, rfl, trivial⟩ rfl ?_
        rintro ⟨j, je, jc⟩ hj
        try dsimp only at *
        refine WC.seq ?_
        refine WC.seq ?_
        refine WC.region ?_
        refine SL.pure rfl rfl rfl (PureOp.move rfl) ?_
        refine SL.pure rfl rfl rfl (PureOp.move rfl) ?_
        refine SL.pure rfl rfl rfl (PureOp.move rfl) ?_
        refine SL.pure rfl rfl rfl (PureOp.indexAddrN Tryd.underlying22 sz27 rfl rfl (AoOk.in_ sL) (fun _ => by omega)) ?_
        refine SL.pure rfl rfl rfl (PureOp.fieldAddr 2 Tryd.underlying27 rfl rfl sz25 rfl) ?_
        refine SL.pure rfl rfl rfl (PureOp.load (v := .slice ((nth l i).2.2.ao) ((nth l i).2.2.l.length) ((nth l i).2.2.cap)) Tryd.underlying25 rfl rfl (fun _ => (CellIs.in_ sL i 2 (by omega) (by omega)))) ?_
        refine SL.pure rfl rfl rfl (PureOp.len rfl Tryd.underlying25) ?_
        refine SL.pure rfl rfl rfl (PureOp.lss rfl rfl) ?_
        refine SL.nil_then ?_
        refine WC.cond rfl (fun h5 => ?_) (fun h5 => ?_)
        · try simp only [Bool.and_eq_true, Bool.or_eq_true, Bool.not_eq_true', Bool.not_eq_false', Bool.and_eq_false_iff, Bool.or_eq_false_iff, decide_eq_true_eq, decide_eq_false_iff_not, Int.not_lt, Int.not_le, ne_eq, Decidable.not_not] at h5
          have hwy := hOk.way i (by omega) j (by omega)
          have hml := mul_bd hwi.1 hwi.2 hwy.2.1 hwy.2.2
          refine WC.skip ?_
          refine QX.then_ ?_
          refine WC.seq ?_
          refine WC.block ?_
          refine WC.drawh ([Item.both (.own w0.heap.size pa m pc 23 1 (cellsOf encSl P)) (.own w0.heap.size fa (m + q + wayS l m) fc 3 1 (cellsOf encI R.1)), Item.triv, Item.own w0.heap.size (some ⟨b1, 0, none⟩) 1 1 37 4 ([.int .i64 0, .int .i64 (1 + ((i : Nat) : Int)), .int .i64 ((nth l i).1), .int .i64 0])]) 40 [false, false, false, false, false, false, false, false, false, false, false, false, false, false, false, false, false, false, false, false, false, false, false, false, false, false, false, false, false, false, false, false, false, false, false, false, false, false, false, false] rfl rfl rfl ?_
          refine SD.take 0 [true, false, false, false, false, false, false, false, false, false, false, false, false, false, false, false, false, false, false, false, false, false, false, false, false, false, false, false, false, false, false, false, false, false, false, false, false, false, false, false] rfl (by kernel_rfl) rfl (fun _ h => (HeapOk.settriv h (i := 1) rfl)) rfl rfl rfl (PureOp.move rfl) ?_
          refine SD.take 1 [true, true, false, false, false, false, false, false, false, false, false, false, false, false, false, false, false, false, false, false, false, false, false, false, false, false, false, false, false, false, false, false, false, false, false, false, false, false, false, false] rfl (by kernel_rfl) rfl (fun _ h => (HeapOk.settriv h (i := 1) rfl)) rfl rfl rfl (PureOp.move rfl) ?_
          refine SD.take 2 [true, true, true, false, false, false, false, false, false, false, false, false, false, false, false, false, false, false, false, false, false, false, false, false, false, false, false, false, false, false, false, false, false, false, false, false, false, false, false, false] rfl (by kernel_rfl) rfl (fun _ h => (HeapOk.settriv h (i := 1) rfl)) rfl rfl rfl (PureOp.add rfl rfl (fun _ => by omega)) ?_
          refine SD.take 3 [true, true, true, true, false, false, false, false, false, false, false, false, false, false, false, false, false, false, false, false, false, false, false, false, false, false, false, false, false, false, false, false, false, false, false, false, false, false, false, false] rfl (by kernel_rfl) rfl (fun _ h => (HeapOk.settriv h (i := 1) rfl)) rfl rfl rfl (PureOp.move rfl) ?_
          refine SD.take 4 [true, true, true, true, true, false, false, false, false, false, false, false, false, false, false, false, false, false, false, false, false, false, false, false, false, false, false, false, false, false, false, false, false, false, false, false, false, false, false, false] rfl (by kernel_rfl) rfl (fun _ h => (HeapOk.settriv h (i := 1) rfl)) rfl rfl rfl (PureOp.len rfl Tryd.underlying22) ?_
          refine SD.take 5 [true, true, true, true, true, true, false, false, false, false, false, false, false, false, false, false, false, false, false, false, false, false, false, false, false, false, false, false, false, false, false, false, false, false, false, false, false, false, false, false] rfl (by kernel_rfl) rfl (fun _ h => (HeapOk.settriv h (i := 1) rfl)) rfl rfl rfl (PureOp.add rfl rfl (fun _ => by omega)) ?_
          refine SD.take 6 [true, true, true, true, true, true, true, false, false, false, false, false, false, false, false, false, false, false, false, false, false, false, false, false, false, false, false, false, false, false, false, false, false, false, false, false, false, false, false, false] rfl (by kernel_rfl) rfl (fun _ h => (HeapOk.settriv h (i := 1) rfl)) rfl rfl rfl (PureOp.move rfl) ?_
          refine SD.take 7 [true, true, true, true, true, true, true, true, false, false, false, false, false, false, false, false, false, false, false, false, false, false, false, false, false, false, false, false, false, false, false, false, false, false, false, false, false, false, false, false] rfl (by kernel_rfl) rfl (fun _ h => (HeapOk.settriv h (i := 1) rfl)) rfl rfl rfl (PureOp.move rfl) ?_
          refine SD.take 8 [true, true, true, true, true, true, true, true, true, false, false, false, false, false, false, false, false, false, false, false, false, false, false, false, false, false, false, false, false, false, false, false, false, false, false, false, false, false, false, false] rfl (by kernel_rfl) rfl (fun _ h => (HeapOk.settriv h (i := 1) rfl)) rfl rfl rfl (PureOp.indexAddrN Tryd.underlying22 sz27 rfl rfl (AoOk.in_ sL) (fun _ => by omega)) ?_
          refine SD.take 9 [true, true, true, true, true, true, true, true, true, true, false, false, false, false, false, false, false, false, false, false, false, false, false, false, false, false, false, false, false, false, false, false, false, false, false, false, false, false, false, false] rfl (by kernel_rfl) rfl (fun _ h => (HeapOk.settriv h (i := 1) rfl)) rfl rfl rfl (PureOp.fieldAddr 2 Tryd.underlying27 rfl rfl sz25 rfl) ?_
          refine SD.take 10 [true, true, true, true, true, true, true, true, true, true, true, false, false, false, false, false, false, false, false, false, false, false, false, false, false, false, false, false, false, false, false, false, false, false, false, false, false, false, false, false] rfl (by kernel_rfl) rfl (fun _ h => (HeapOk.settriv h (i := 1) rfl)) rfl rfl rfl (PureOp.load (v := .slice ((nth l i).2.2.ao) ((nth l i).2.2.l.length) ((nth l i).2.2.cap)) Tryd.underlying25 rfl rfl (fun _ => (CellIs.in_ sL i 2 (by omega) (by omega)))) ?_
          refine SD.take 11 [true, true, true, true, true, true, true, true, true, true, true, true, false, false, false, false, false, false, false, false, false, false, false, false, false, false, false, false, false, false, false, false, false, false, false, false, false, false, false, false] rfl (by kernel_rfl) rfl (fun _ h => (HeapOk.settriv h (i := 1) rfl)) rfl rfl rfl (PureOp.move rfl) ?_
          refine SD.take 12 [true, true, true, true, true, true, true, true, true, true, true, true, true, false, false, false, false, false, false, false, false, false, false, false, false, false, false, false, false, false, false, false, false, false, false, false, false, false, false, false] rfl (by kernel_rfl) rfl (fun _ h => (HeapOk.settriv h (i := 1) rfl)) rfl rfl rfl (PureOp.indexAddrN Tryd.underlying25 sz39 rfl rfl (AoOk.any (fun w hw => (hI i (by omega)).below hw.below)) (fun _ => by omega)) ?_
          refine SD.take 13 [true, true, true, true, true, true, true, true, true, true, true, true, true, true, false, false, false, false, false, false, false, false, false, false, false, false, false, false, false, false, false, false, false, false, false, false, false, false, false, false] rfl (by kernel_rfl) rfl (fun _ h => (HeapOk.settriv h (i := 1) rfl)) rfl rfl rfl (PureOp.fieldAddr 0 Tryd.underlying39 rfl rfl sz3 rfl) ?_
          refine SD.take 14 [true, true, true, true, true, true, true, true, true, true, true, true, true, true, true, false, false, false, false, false, false, false, false, false, false, false, false, false, false, false, false, false, false, false, false, false, false, false, false, false] rfl (by kernel_rfl) rfl (fun _ h => (HeapOk.settriv h (i := 1) rfl)) rfl rfl rfl (PureOp.load (v := .int .i64 ((nth ((nth l i).2.2.l) j).1)) Tryd.underlying3 rfl rfl (fun _ => (CellIs.any (fun w hw => (hI i (by omega)).below hw.below) j 0 (by omega) (by omega)))) ?_
          refine SD.take 15 [true, true, true, true, true, true, true, true, true, true, true, true, true, true, true, true, false, false, false, false, false, false, false, false, false, false, false, false, false, false, false, false, false, false, false, false, false, false, false, false] rfl (by kernel_rfl) rfl (fun _ h => (HeapOk.settriv h (i := 1) rfl)) rfl rfl rfl (PureOp.add rfl rfl (fun _ => by omega)) ?_
          refine SD.take 16 [true, true, true, true, true, true, true, true, true, true, true, true, true, true, true, true, true, false, false, false, false, false, false, false, false, false, false, false, false, false, false, false, false, false, false, false, false, false, false, false] rfl (by kernel_rfl) rfl (fun _ h => (HeapOk.settriv h (i := 1) rfl)) rfl rfl rfl (PureOp.move rfl) ?_
          refine SD.take 17 [true, true, true, true, true, true, true, true, true, true, true, true, true, true, true, true, true, true, false, false, false, false, false, false, false, false, false, false, false, false, false, false, false, false, false, false, false, false, false, false] rfl (by kernel_rfl) rfl (fun _ h => (HeapOk.settriv h (i := 1) rfl)) rfl rfl rfl (PureOp.move rfl) ?_
          refine SD.take 18 [true, true, true, true, true, true, true, true, true, true, true, true, true, true, true, true, true, true, true, false, false, false, false, false, false, false, false, false, false, false, false, false, false, false, false, false, false, false, false, false] rfl (by kernel_rfl) rfl (fun _ h => (HeapOk.settriv h (i := 1) rfl)) rfl rfl rfl (PureOp.indexAddrN Tryd.underlying22 sz27 rfl rfl (AoOk.in_ sL) (fun _ => by omega)) ?_
          refine SD.take 19 [true, true, true, true, true, true, true, true, true, true, true, true, true, true, true, true, true, true, true, true, false, false, false, false, false, false, false, false, false, false, false, false, false, false, false, false, false, false, false, false] rfl (by kernel_rfl) rfl (fun _ h => (HeapOk.settriv h (i := 1) rfl)) rfl rfl rfl (PureOp.fieldAddr 0 Tryd.underlying27 rfl rfl sz3 rfl) ?_
          refine SD.take 20 [true, true, true, true, true, true, true, true, true, true, true, true, true, true, true, true, true, true, true, true, true, false, false, false, false, false, false, false, false, false, false, false, false, false, false, false, false, false, false, false] rfl (by kernel_rfl) rfl (fun _ h => (HeapOk.settriv h (i := 1) rfl)) rfl rfl rfl (PureOp.load (v := .int .i64 ((nth l i).1)) Tryd.underlying3 rfl rfl (fun _ => (CellIs.in_ sL i 0 (by omega) (by omega)))) ?_
          refine SD.take 21 [true, true, true, true, true, true, true, true, true, true, true, true, true, true, true, true, true, true, true, true, true, true, false, false, false, false, false, false, false, false, false, false, false, false, false, false, false, false, false, false] rfl (by kernel_rfl) rfl (fun _ h => (HeapOk.settriv h (i := 1) rfl)) rfl rfl rfl (PureOp.move rfl) ?_
          refine SD.take 22 [true, true, true, true, true, true, true, true, true, true, true, true, true, true, true, true, true, true, true, true, true, true, true, false, false, false, false, false, false, false, false, false, false, false, false, false, false, false, false, false] rfl (by kernel_rfl) rfl (fun _ h => (HeapOk.settriv h (i := 1) rfl)) rfl rfl rfl (PureOp.move rfl) ?_
          refine SD.take 23 [true, true, true, true, true, true, true, true, true, true, true, true, true, true, true, true, true, true, true, true, true, true, true, true, false, false, false, false, false, false, false, false, false, false, false, false, false, false, false, false] rfl (by kernel_rfl) rfl (fun _ h => (HeapOk.settriv h (i := 1) rfl)) rfl rfl rfl (PureOp.indexAddrN Tryd.underlying22 sz27 rfl rfl (AoOk.in_ sL) (fun _ => by omega)) ?_
          refine SD.take 24 [true, true, true, true, true, true, true, true, true, true, true, true, true, true, true, true, true, true, true, true, true, true, true, true, true, false, false, false, false, false, false, false, false, false, false, false, false, false, false, false] rfl (by kernel_rfl) rfl (fun _ h => (HeapOk.settriv h (i := 1) rfl)) rfl rfl rfl (PureOp.fieldAddr 1 Tryd.underlying27 rfl rfl sz3 rfl) ?_
          refine SD.take 25 [true, true, true, true, true, true, true, true, true, true, true, true, true, true, true, true, true, true, true, true, true, true, true, true, true, true, false, false, false, false, false, false, false, false, false, false, false, false, false, false] rfl (by kernel_rfl) rfl (fun _ h => (HeapOk.settriv h (i := 1) rfl)) rfl rfl rfl (PureOp.load (v := .int .i64 ((nth l i).2.1)) Tryd.underlying3 rfl rfl (fun _ => (CellIs.in_ sL i 1 (by omega) (by omega)))) ?_
          refine SD.take 26 [true, true, true, true, true, true, true, true, true, true, true, true, true, true, true, true, true, true, true, true, true, true, true, true, true, true, true, false, false, false, false, false, false, false, false, false, false, false, false, false] rfl (by kernel_rfl) rfl (fun _ h => (HeapOk.settriv h (i := 1) rfl)) rfl rfl rfl (PureOp.move rfl) ?_
          refine SD.take 27 [true, true, true, true, true, true, true, true, true, true, true, true, true, true, true, true, true, true, true, true, true, true, true, true, true, true, true, true, false, false, false, false, false, false, false, false, false, false, false, false] rfl (by kernel_rfl) rfl (fun _ h => (HeapOk.settriv h (i := 1) rfl)) rfl rfl rfl (PureOp.move rfl) ?_
          refine SD.take 28 [true, true, true, true, true, true, true, true, true, true, true, true, true, true, true, true, true, true, true, true, true, true, true, true, true, true, true, true, true, false, false, false, false, false, false, false, false, false, false, false] rfl (by kernel_rfl) rfl (fun _ h => (HeapOk.settriv h (i := 1) rfl)) rfl rfl rfl (PureOp.indexAddrN Tryd.underlying22 sz27 rfl rfl (AoOk.in_ sL) (fun _ => by omega)) ?_
          refine SD.take 29 [true, true, true, true, true, true, true, true, true, true, true, true, true, true, true, true, true, true, true, true, true, true, true, true, true, true, true, true, true, true, false, false, false, false, false, false, false, false, false, false] rfl (by kernel_rfl) rfl (fun _ h => (HeapOk.settriv h (i := 1) rfl)) rfl rfl rfl (PureOp.fieldAddr 2 Tryd.underlying27 rfl rfl sz25 rfl) ?_
          refine SD.take 30 [true, true, true, true, true, true, true, true, true, true, true, true, true, true, true, true, true, true, true, true, true, true, true, true, true, true, true, true, true, true, true, false, false, false, false, false, false, false, false, false] rfl (by kernel_rfl) rfl (fun _ h => (HeapOk.settriv h (i := 1) rfl)) rfl rfl rfl (PureOp.load (v := .slice ((nth l i).2.2.ao) ((nth l i).2.2.l.length) ((nth l i).2.2.cap)) Tryd.underlying25 rfl rfl (fun _ => (CellIs.in_ sL i 2 (by omega) (by omega)))) ?_
          refine SD.take 31 [true, true, true, true, true, true, true, true, true, true, true, true, true, true, true, true, true, true, true, true, true, true, true, true, true, true, true, true, true, true, true, true, false, false, false, false, false, false, false, false] rfl (by kernel_rfl) rfl (fun _ h => (HeapOk.settriv h (i := 1) rfl)) rfl rfl rfl (PureOp.move rfl) ?_
          refine SD.take 32 [true, true, true, true, true, true, true, true, true, true, true, true, true, true, true, true, true, true, true, true, true, true, true, true, true, true, true, true, true, true, true, true, true, false, false, false, false, false, false, false] rfl (by kernel_rfl) rfl (fun _ h => (HeapOk.settriv h (i := 1) rfl)) rfl rfl rfl (PureOp.indexAddrN Tryd.underlying25 sz39 rfl rfl (AoOk.any (fun w hw => (hI i (by omega)).below hw.below)) (fun _ => by omega)) ?_
          refine SD.take 33 [true, true, true, true, true, true, true, true, true, true, true, true, true, true, true, true, true, true, true, true, true, true, true, true, true, true, true, true, true, true, true, true, true, true, false, false, false, false, false, false] rfl (by kernel_rfl) rfl (fun _ h => (HeapOk.settriv h (i := 1) rfl)) rfl rfl rfl (PureOp.fieldAddr 1 Tryd.underlying39 rfl rfl sz3 rfl) ?_
          refine SD.take 34 [true, true, true, true, true, true, true, true, true, true, true, true, true, true, true, true, true, true, true, true, true, true, true, true, true, true, true, true, true, true, true, true, true, true, true, false, false, false, false, false] rfl (by kernel_rfl) rfl (fun _ h => (HeapOk.settriv h (i := 1) rfl)) rfl rfl rfl (PureOp.load (v := .int .i64 ((nth ((nth l i).2.2.l) j).2)) Tryd.underlying3 rfl rfl (fun _ => (CellIs.any (fun w hw => (hI i (by omega)).below hw.below) j 1 (by omega) (by omega)))) ?_
          refine SD.take 35 [true, true, true, true, true, true, true, true, true, true, true, true, true, true, true, true, true, true, true, true, true, true, true, true, true, true, true, true, true, true, true, true, true, true, true, true, false, false, false, false] rfl (by kernel_rfl) rfl (fun _ h => (HeapOk.settriv h (i := 1) rfl)) rfl rfl rfl (PureOp.mul rfl rfl (fun _ => by omega)) ?_
          refine SD.take 36 [true, true, true, true, true, true, true, true, true, true, true, true, true, true, true, true, true, true, true, true, true, true, true, true, true, true, true, true, true, true, true, true, true, true, true, true, true, false, false, false] rfl (by kernel_rfl) rfl (fun _ h => (HeapOk.settriv h (i := 1) rfl)) rfl rfl rfl (PureOp.build bld37 rfl rfl) ?_
          refine SD.one 37 [true, true, true, true, true, true, true, true, true, true, true, true, true, true, true, true, true, true, true, true, true, true, true, true, true, true, true, true, true, true, true, true, true, true, true, true, true, true, false, false] (by kernel_rfl) rfl rfl ?_
          refine SL.buildSlice rfl rfl Tryd.underlying35 elem37 rfl rfl rfl rfl (fun b2 hb2 => ?_)
          refine SL.norm [_, _, _, _] rfl ?_
          refine SD.back (fun _ h => (HeapOk.settriv (HeapOk.take h 3) (i := 1) rfl)) ?_
          refine SD.one 38 [true, true, true, true, true, true, true, true, true, true, true, true, true, true, true, true, true, true, true, true, true, true, true, true, true, true, true, true, true, true, true, true, true, true, true, true, true, true, true, false] (by kernel_rfl) rfl rfl ?_
          refine SL.append 1 rfl rfl Tryd.underlying35 elem37 rfl rfl rfl rfl (SrcIs.own 3 rfl) (by rfl) (by omega) (by omega) (fun ao2_ cap2_ => ?_)
          refine SL.itemxs 1 rfl (show _ = cellsOf encEd ((edI m (nth l i) i (edT m l i ++ [(0, 1 + (i : Int), (nth l i).1, 0)]) j) ++ [(1 + (i : Int), 1 + (m : Int) + (nth (nth l i).2.2.l j).1, (nth l i).1, (nth l i).2.1 * (nth (nth l i).2.2.l j).2)]) from by rw [cellsOf_append (l := (edI m (nth l i) i (edT m l i ++ [(0, 1 + (i : Int), (nth l i).1, 0)]) j)), cellsOf_one]; rfl) ?_
          refine SL.norm [_, _, _, _] rfl ?_
          refine SD.back (fun _ h => (HeapOk.settriv (HeapOk.take h 3) (i := 1) rfl)) ?_
          refine SD.take 39 [true, true, true, true, true, true, true, true, true, true, true, true, true, true, true, true, true, true, true, true, true, true, true, true, true, true, true, true, true, true, true, true, true, true, true, true, true, true, true, true] rfl (by kernel_rfl) rfl (fun _ h => (HeapOk.settriv (HeapOk.take h 3) (i := 1) rfl)) rfl rfl rfl (PureOp.assign rfl) ?_
          refine SD.done (by kernel_rfl) ?_
          refine QX.ofK ?_
          refine QX.normal_in ?_
          refine QX.then_ ?_
          refine WC.region ?_
          refine SL.pure rfl rfl rfl (PureOp.move rfl) ?_
          refine SL.pure rfl rfl rfl (PureOp.addN (k := 1) rfl rfl (fun _ => by omega)) ?_
          refine SL.pure rfl rfl rfl (PureOp.assign rfl) ?_
          refine SL.nil ?_
          refine QX.round (σ := Nat × Option Addr × Nat) (Ef := fun q_ => [(0, 0, .slice la m lc), (1, 0, .slice ca q cc), (5, 0, .int .i64 ((k : Nat) : Int)), (6, 0, .slice pa m pc), (7, 0, .int .i64 0), (8, 0, .int .i64 R.2.1), (9, 0, .int .i64 R.2.2), (10, 0, .int .i64 0), (12, 0, .int .i64 ((peoT l i) + ((nth l i).1))), (13, 0, .int .i64 ((i : Nat) : Int)), (23, 0, .slice la m lc), (24, 0, .int .i64 ((m : Nat) : Int)), (25, 0, .bool (decide (5 < ((m : Nat) : Int)))), (26, 0, .bool (decide (5 < ((m : Nat) : Int)))), (30, 0, .bool ((decide (5 < ((m : Nat) : Int))) || (decide (5 < ((q : Nat) : Int))))), (32, 0, .int .i64 ((k : Nat) : Int)), (33, 0, .slice la m lc), (34, 0, .int .i64 ((m : Nat) : Int)), (35, 0, .bool (decide (((k : Nat) : Int) < ((m : Nat) : Int)))), (46, 0, .tuple #[.slice pa m pc, .int .i64 0]), (47, 0, .slice la m lc), (48, 0, .slice ca q cc), (49, 0, .tuple #[.slice pa m pc, .int .i64 0]), (50, 0, .slice pa m pc), (51, 0, .int .i64 0), (52, 0, .int .i64 0), (53, 0, .bool false), (62, 0, .tuple #[.int .i64 R.2.1, .int .i64 R.2.2, .int .i64 0]), (63, 0, .slice la m lc), (64, 0, .slice ca q cc), (65, 0, .slice pa m pc), (66, 0, .tuple #[.int .i64 R.2.1, .int .i64 R.2.2, .int .i64 0]), (67, 0, .int .i64 R.2.1), (68, 0, .int .i64 R.2.2), (69, 0, .int .i64 0), (70, 0, .int .i64 0), (71, 0, .bool false), (72, 0, .int .i64 ((i : Nat) : Int)), (73, 0, .slice la m lc), (74, 0, .int .i64 ((m : Nat) : Int)), (75, 0, .bool (decide (((i : Nat) : Int) < ((m : Nat) : Int)))), (78, 0, .slice ie (i + wayS l i) ic), (79, 0, .int .i64 ((i : Nat) : Int)), (80, 0, .int .i64 (1 + ((i : Nat) : Int))), (81, 0, .slice la m lc), (82, 0, .int .i64 ((i : Nat) : Int)), (83, 0, .pointer (some ⟨blk la, off la + i * 3, none⟩)), (84, 0, .pointer (some ⟨blk la, off la + i * 3, none⟩)), (85, 0, .int .i64 ((nth l i).1)), (86, 0, .agg #[.int .i64 0, .int .i64 (1 + ((i : Nat) : Int)), .int .i64 ((nth l i).1), .int .i64 0]), (87, 0, .slice (some ⟨b1, 0, none⟩) 1 1), (88, 0, .slice ao1_ ((i + wayS l i) + 1) cap1_), (89, 0, .int .i64 (peoT l i)), (90, 0, .slice la m lc), (91, 0, .int .i64 ((i : Nat) : Int)), (92, 0, .pointer (some ⟨blk la, off la + i * 3, none⟩)), (93, 0, .pointer (some ⟨blk la, off la + i * 3, none⟩)), (94, 0, .int .i64 ((nth l i).1)), (95, 0, .int .i64 ((peoT l i) + ((nth l i).1))), (14, 0, .int .i64 ((q_.1 : Nat) : Int)), (11, 0, .slice q_.2.1 (i + wayS l i + 1 + q_.1) q_.2.2)]) (Hf := fun q_ => [Item.both (.own w0.heap.size pa m pc 23 1 (cellsOf encSl P)) (.own w0.heap.size fa (m + q + wayS l m) fc 3 1 (cellsOf encI R.1)), Item.own w0.heap.size q_.2.1 (i + wayS l i + 1 + q_.1) q_.2.2 37 4 (cellsOf encEd (edI m (nth l i) i (edT m l i ++ [(0, 1 + (i : Int), (nth l i).1, 0)]) q_.1)), Item.own w0.heap.size (some ⟨b1, 0, none⟩) 1 1 37 4 ([.int .i64 0, .int .i64 (1 + ((i : Nat) : Int)), .int .i64 ((nth l i).1), .int .i64 0])]) (I := fun q_ => q_.1 ≤ (nth l i).2.2.l.length) (μ := fun q_ => (nth l i).2.2.l.length - q_.1) (s := (j, je, jc)) 3 ((j + 1, ao2_, cap2_)) ⟨(by first | omega | (dsimp only; omega)), by first | omega | (dsimp only; omega)⟩ ⟨rfl, rfl, rfl, rfl, rfl, rfl, rfl, rfl, rfl, rfl, rfl, rfl, rfl, rfl, rfl, rfl, rfl, rfl, rfl, rfl, rfl, rfl, rfl, rfl, rfl, rfl, rfl, rfl, rfl, rfl, rfl, rfl, rfl, rfl, rfl, rfl, rfl, rfl, rfl, rfl, rfl, rfl, rfl, rfl, rfl, rfl, rfl, rfl, rfl, rfl, rfl, rfl, rfl, rfl, rfl, rfl, rfl, rfl, rfl, rfl, rfl, rfl, rfl, rfl, rfl, rfl, rfl, rfl, rfl, rfl, rfl, rfl, rfl, rfl, rfl, rfl, rfl, rfl, rfl, rfl, rfl, rfl, rfl, rfl, rfl, rfl, rfl, rfl, rfl, rfl, rfl, rfl, rfl, rfl, rfl, rfl, rfl, rfl, rfl, rfl, rfl, rfl, rfl, rfl, rfl, rfl, rfl, rfl, rfl, rfl, rfl, rfl, rfl, rfl, rfl, rfl, rfl, rfl, rfl, rfl, rfl, rfl, trivial⟩ rfl
        · try simp only [Bool.and_eq_true, Bool.or_eq_true, Bool.not_eq_true', Bool.not_eq_false', Bool.and_eq_false_iff, Bool.or_eq_false_iff, decide_eq_true_eq, decide_eq_false_iff_not, Int.not_lt, Int.not_le, ne_eq, Decidable.not_not] at h5
          have e_ : j = (nth l i).2.2.l.length := by omega
          subst e_
          rw [show i + wayS l i + 1 + (nth l i).2.2.l.length = (i + 1) + wayS l (i + 1) from by rw [wayS]; omega]
          refine WC.exit ?_
          refine QX.exit_then ?_
          refine QX.exit_then ?_
          refine QX.exit_hit ?_
          refine QX.normal_in ?_
          refine QX.then_ ?_
          refine WC.region ?_
          refine SL.pure rfl rfl rfl (PureOp.move rfl) ?_
          refine SL.pure rfl rfl rfl (PureOp.addN (k := 1) rfl rfl (fun _ => by omega)) ?_
          refine SL.pure rfl rfl rfl (PureOp.assign rfl) ?_
          refine SL.nil ?_
          refine QX.round (σ := Nat × Option Addr × Nat) (Ef := fun q_ => [(0, 0, .slice la m lc), (1, 0, .slice ca q cc), (5, 0, .int .i64 ((k : Nat) : Int)), (6, 0, .slice pa m pc), (7, 0, .int .i64 0), (8, 0, .int .i64 R.2.1), (9, 0, .int .i64 R.2.2), (10, 0, .int .i64 0), (23, 0, .slice la m lc), (24, 0, .int .i64 ((m : Nat) : Int)), (25, 0, .bool (decide (5 < ((m : Nat) : Int)))), (26, 0, .bool (decide (5 < ((m : Nat) : Int)))), (30, 0, .bool ((decide (5 < ((m : Nat) : Int))) || (decide (5 < ((q : Nat) : Int))))), (32, 0, .int .i64 ((k : Nat) : Int)), (33, 0, .slice la m lc), (34, 0, .int .i64 ((m : Nat) : Int)), (35, 0, .bool (decide (((k : Nat) : Int) < ((m : Nat) : Int)))), (46, 0, .tuple #[.slice pa m pc, .int .i64 0]), (47, 0, .slice la m lc), (48, 0, .slice ca q cc), (49, 0, .tuple #[.slice pa m pc, .int .i64 0]), (50, 0, .slice pa m pc), (51, 0, .int .i64 0), (52, 0, .int .i64 0), (53, 0, .bool false), (62, 0, .tuple #[.int .i64 R.2.1, .int .i64 R.2.2, .int .i64 0]), (63, 0, .slice la m lc), (64, 0, .slice ca q cc), (65, 0, .slice pa m pc), (66, 0, .tuple #[.int .i64 R.2.1, .int .i64 R.2.2, .int .i64 0]), (67, 0, .int .i64 R.2.1), (68, 0, .int .i64 R.2.2), (69, 0, .int .i64 0), (70, 0, .int .i64 0), (71, 0, .bool false), (13, 0, .int .i64 ((q_.1 : Nat) : Int)), (11, 0, .slice q_.2.1 (q_.1 + wayS l q_.1) q_.2.2), (12, 0, .int .i64 (peoT l q_.1))]) (Hf := fun q_ => [Item.both (.own w0.heap.size pa m pc 23 1 (cellsOf encSl P)) (.own w0.heap.size fa (m + q + wayS l m) fc 3 1 (cellsOf encI R.1)), Item.own w0.heap.size q_.2.1 (q_.1 + wayS l q_.1) q_.2.2 37 4 (cellsOf encEd (edT m l q_.1))]) (I := fun q_ => q_.1 ≤ m) (μ := fun q_ => m - q_.1) (s := (i, ie, ic)) 2 ((i + 1, je, jc)) ⟨(by first | omega | (dsimp only; omega)), by first | omega | (dsimp only; omega)⟩ ⟨rfl, rfl, rfl, rfl, rfl, rfl, rfl, rfl, rfl, rfl, rfl, rfl, rfl, rfl, rfl, rfl, rfl, rfl, rfl, rfl, rfl, rfl, rfl, rfl, rfl, rfl, rfl, rfl, rfl, rfl, rfl, rfl, rfl, rfl, rfl, rfl, rfl, rfl, rfl, rfl, rfl, rfl, rfl, rfl, rfl, rfl, rfl, rfl, rfl, rfl, rfl, rfl, rfl, rfl, rfl, rfl, rfl, rfl, rfl, rfl, rfl, rfl, rfl, rfl, rfl, rfl, rfl, rfl, rfl, rfl, rfl, rfl, rfl, rfl, rfl, rfl, trivial⟩ rfl
      · try simp only [Bool.and_eq_true, Bool.or_eq_true, Bool.not_eq_true', Bool.not_eq_false', Bool.and_eq_false_iff, Bool.or_eq_false_iff, decide_eq_true_eq, decide_eq_false_iff_not, Int.not_lt, Int.not_le, ne_eq, Decidable.not_not] at h4
        have e_ : i = m := by omega
        subst i
        refine WC.exit ?_
        refine QX.exit_then ?_
        refine QX.exit_then ?_
        refine QX.exit_hit ?_
        refine QX.then_ ?_
        refine WC.seq ?_
        refine WC.seq ?_
        refine WC.region ?_
        refine SL.pure rfl rfl rfl (PureOp.assign rfl) ?_
        refine SL.nil_then ?_
        refine WC.block ?_
        refine WC.loop (σ := Nat × Option Addr × Nat) (fun q_ => [(0, 0, .slice la m lc), (1, 0, .slice ca q cc), (5, 0, .int .i64 ((k : Nat) : Int)), (6, 0, .slice pa m pc), (7, 0, .int .i64 0), (8, 0, .int .i64 R.2.1), (9, 0, .int .i64 R.2.2), (10, 0, .int .i64 0), (12, 0, .int .i64 (peoT l m)), (13, 0, .int .i64 ((m : Nat) : Int)), (23, 0, .slice la m lc), (24, 0, .int .i64 ((m : Nat) : Int)), (25, 0, .bool (decide (5 < ((m : Nat) : Int)))), (26, 0, .bool (decide (5 < ((m : Nat) : Int)))), (30, 0, .bool ((decide (5 < ((m : Nat) : Int))) || (decide (5 < ((q : Nat) : Int))))), (32, 0, .int .i64 ((k : Nat) : Int)), (33, 0, .slice la m lc), (34, 0, .int .i64 ((m : Nat) : Int)), (35, 0, .bool (decide (((k : Nat) : Int) < ((m : Nat) : Int)))), (46, 0, .tuple #[.slice pa m pc, .int .i64 0]), (47, 0, .slice la m lc), (48, 0, .slice ca q cc), (49, 0, .tuple #[.slice pa m pc, .int .i64 0]), (50, 0, .slice pa m pc), (51, 0, .int .i64 0), (52, 0, .int .i64 0), (53, 0, .bool false), (62, 0, .tuple #[.int .i64 R.2.1, .int .i64 R.2.2, .int .i64 0]), (63, 0, .slice la m lc), (64, 0, .slice ca q cc), (65, 0, .slice pa m pc), (66, 0, .tuple #[.int .i64 R.2.1, .int .i64 R.2.2, .int .i64 0]), (67, 0, .int .i64 R.2.1), (68, 0, .int .i64 R.2.2), (69, 0, .int .i64 0), (70, 0, .int .i64 0), (71, 0, .bool false), (72, 0, .int .i64 ((m : Nat) : Int)), (73, 0, .slice la m lc), (74, 0, .int .i64 ((m : Nat) : Int)), (75, 0, .bool (decide (((m : Nat) : Int) < ((m : Nat) : Int)))), (15, 0, .int .i64 ((q_.1 : Nat) : Int)), (11, 0, .slice q_.2.1 (m + wayS l m + q_.1) q_.2.2)]) (fun q_ => [Item.both (.own w0.heap.size pa m pc 23 1 (cellsOf encSl P)) (.own w0.heap.size fa (m + q + wayS l m) fc 3 1 (cellsOf encI R.1)), Item.own w0.heap.size q_.2.1 (m + wayS l m + q_.1) q_.2.2 37 4 (cellsOf encEd (edU m q l c q_.1))]) (fun q_ => q_.1 ≤ q) (fun q_ => q - q_.1) 2 ((0, ie, ic)) (Nat.zero_le _) ⟨rfl, rfl, rfl, rfl, rfl, rfl, rfl, rfl, rfl, rfl, rfl, rfl, rfl, rfl, rfl, rfl, rfl, rfl, rfl, rfl, rfl, rfl, rfl, rfl, rfl, rfl, rfl, rfl, rfl, rfl, rfl, rfl, rfl, rfl, rfl, rfl, rfl, rfl, rfl, rfl, rfl, rfl, rfl, rfl, rfl, rfl, rfl, rfl, rfl, rfl, rfl, rfl, rfl, rfl, rfl, rfl, rfl, rfl, rfl, rfl, rfl, rfl, rfl, rfl, rfl, rfl, rfl, rfl, rfl, rfl, rfl, rfl, rfl, rfl, rfl, rfl, rfl, rfl, rfl, rfl, rfl, rfl, rfl, rfl, rfl, rfl, trivial⟩ rfl ?_
        rintro ⟨b, be, bc⟩ hb
        try dsimp only at *
        refine WC.seq ?_
        refine WC.seq ?_
        refine WC.region ?_
        refine SL.pure rfl rfl rfl (PureOp.move rfl) ?_
        refine SL.pure rfl rfl rfl (PureOp.move rfl) ?_
        refine SL.pure rfl rfl rfl (PureOp.len rfl Tryd.underlying23) ?_
        refine SL.pure rfl rfl rfl (PureOp.lss rfl rfl) ?_
        refine SL.nil_then ?_
        refine WC.cond rfl (fun h6 => ?_) (fun h6 => ?_)
        · try simp only [Bool.and_eq_true, Bool.or_eq_true, Bool.not_eq_true', Bool.not_eq_false', Bool.and_eq_false_iff, Bool.or_eq_false_iff, decide_eq_true_eq, decide_eq_false_iff_not, Int.not_lt, Int.not_le, ne_eq, Decidable.not_not] at h6
          have hcb := hOk.cap b (by omega)
          refine WC.skip ?_
          refine QX.then_ ?_
          refine WC.seq ?_
          refine WC.block ?_
          refine WC.region ?_
          refine SL.pure rfl rfl rfl (PureOp.move rfl) ?_
          refine SL.pure rfl rfl rfl (PureOp.move rfl) ?_
          refine SL.pure rfl rfl rfl (PureOp.len rfl Tryd.underlying22) ?_
          refine SL.pure rfl rfl rfl (PureOp.add rfl rfl (fun _ => by omega)) ?_
          refine SL.pure rfl rfl rfl (PureOp.move rfl) ?_
          refine SL.pure rfl rfl rfl (PureOp.add rfl rfl (fun _ => by omega)) ?_
          refine SL.pure rfl rfl rfl (PureOp.move rfl) ?_
          refine SL.pure rfl rfl rfl (PureOp.len rfl Tryd.underlying22) ?_
          refine SL.pure rfl rfl rfl (PureOp.add rfl rfl (fun _ => by omega)) ?_
          refine SL.pure rfl rfl rfl (PureOp.move rfl) ?_
          refine SL.pure rfl rfl rfl (PureOp.len rfl Tryd.underlying23) ?_
          refine SL.pure rfl rfl rfl (PureOp.add rfl rfl (fun _ => by omega)) ?_
          refine SL.pure rfl rfl rfl (PureOp.move rfl) ?_
          refine SL.pure rfl rfl rfl (PureOp.move rfl) ?_
          refine SL.pure rfl rfl rfl (PureOp.indexAddrN Tryd.underlying23 sz3 rfl rfl (AoOk.in_ sC) (fun _ => by omega)) ?_
          refine SL.pure rfl rfl rfl (PureOp.load (v := .int .i64 (nth c b)) Tryd.underlying3 rfl rfl (fun _ => (CellIs.in_ sC b 0 (by omega) (by omega)))) ?_
          refine SL.pure rfl rfl rfl (PureOp.build bld37 rfl rfl) ?_
          refine SL.buildSlice rfl rfl Tryd.underlying35 elem37 rfl rfl rfl rfl (fun b3 hb3 => ?_)
          refine SL.norm [_, _, _] rfl ?_
          refine SL.append 1 rfl rfl Tryd.underlying35 elem37 rfl rfl rfl rfl (SrcIs.own 2 rfl) (by rfl) (by omega) (by omega) (fun ao3_ cap3_ => ?_)
          refine SL.itemxs 1 rfl (show _ = cellsOf encEd (edU m q l c b ++ [(1 + (m : Int) + (b : Int), 1 + (m : Int) + (q : Int), nth c b, 0)]) from by rw [cellsOf_append (l := (edU m q l c b)), cellsOf_one]; rfl) ?_
          refine SL.norm [_, _, _] rfl ?_
          refine SL.pure rfl rfl rfl (PureOp.assign rfl) ?_
          refine SL.nil ?_
          refine QX.normal_in ?_
          refine QX.then_ ?_
          refine WC.region ?_
          refine SL.pure rfl rfl rfl (PureOp.move rfl) ?_
          refine SL.pure rfl rfl rfl (PureOp.addN (k := 1) rfl rfl (fun _ => by omega)) ?_
          refine SL.pure rfl rfl rfl (PureOp.assign rfl) ?_
          refine SL.nil ?_
          refine QX.round (σ := Nat × Option Addr × Nat) (Ef := fun q_ => [(0, 0, .slice la m lc), (1, 0, .slice ca q cc), (5, 0, .int .i64 ((k : Nat) : Int)), (6, 0, .slice pa m pc), (7, 0, .int .i64 0), (8, 0, .int .i64 R.2.1), (9, 0, .int .i64 R.2.2), (10, 0, .int .i64 0), (12, 0, .int .i64 (peoT l m)), (13, 0, .int .i64 ((m : Nat) : Int)), (23, 0, .slice la m lc), (24, 0, .int .i64 ((m : Nat) : Int)), (25, 0, .bool (decide (5 < ((m : Nat) : Int)))), (26, 0, .bool (decide (5 < ((m : Nat) : Int)))), (30, 0, .bool ((decide (5 < ((m : Nat) : Int))) || (decide (5 < ((q : Nat) : Int))))), (32, 0, .int .i64 ((k : Nat) : Int)), (33, 0, .slice la m lc), (34, 0, .int .i64 ((m : Nat) : Int)), (35, 0, .bool (decide (((k : Nat) : Int) < ((m : Nat) : Int)))), (46, 0, .tuple #[.slice pa m pc, .int .i64 0]), (47, 0, .slice la m lc), (48, 0, .slice ca q cc), (49, 0, .tuple #[.slice pa m pc, .int .i64 0]), (50, 0, .slice pa m pc), (51, 0, .int .i64 0), (52, 0, .int .i64 0), (53, 0, .bool false), (62, 0, .tuple #[.int .i64 R.2.1, .int .i64 R.2.2, .int .i64 0]), (63, 0, .slice la m lc), (64, 0, .slice ca q cc), (65, 0, .slice pa m pc), (66, 0, .tuple #[.int .i64 R.2.1, .int .i64 R.2.2, .int .i64 0]), (67, 0, .int .i64 R.2.1), (68, 0, .int .i64 R.2.2), (69, 0, .int .i64 0), (70, 0, .int .i64 0), (71, 0, .bool false), (72, 0, .int .i64 ((m : Nat) : Int)), (73, 0, .slice la m lc), (74, 0, .int .i64 ((m : Nat) : Int)), (75, 0, .bool (decide (((m : Nat) : Int) < ((m : Nat) : Int)))), (15, 0, .int .i64 ((q_.1 : Nat) : Int)), (11, 0, .slice q_.2.1 (m + wayS l m + q_.1) q_.2.2)]) (Hf := fun q_ => [Item.both (.own w0.heap.size pa m pc 23 1 (cellsOf encSl P)) (.own w0.heap.size fa (m + q + wayS l m) fc 3 1 (cellsOf encI R.1)), Item.own w0.heap.size q_.2.1 (m + wayS l m + q_.1) q_.2.2 37 4 (cellsOf encEd (edU m q l c q_.1))]) (I := fun q_ => q_.1 ≤ q) (μ := fun q_ => q - q_.1) (s := (b, be, bc)) 2 ((b + 1, ao3_, cap3_)) ⟨(by first | omega | (dsimp only; omega)), by first | omega | (dsimp only; omega)⟩ ⟨rfl, rfl, rfl, rfl, rfl, rfl, rfl, rfl, rfl, rfl, rfl, rfl, rfl, rfl, rfl, rfl, rfl, rfl, rfl, rfl, rfl, rfl, rfl, rfl, rfl, rfl, rfl, rfl, rfl, rfl, rfl, rfl, rfl, rfl, rfl, rfl, rfl, rfl, rfl, rfl, rfl, rfl, rfl, rfl, rfl, rfl, rfl, rfl, rfl, rfl, rfl, rfl, rfl, rfl, rfl, rfl, rfl, rfl, rfl, rfl, rfl, rfl, rfl, rfl, rfl, rfl, rfl, rfl, rfl, rfl, rfl, rfl, rfl, rfl, rfl, rfl, rfl, rfl, rfl, rfl, rfl, rfl, rfl, rfl, rfl, rfl, trivial⟩ rfl
        · try simp only [Bool.and_eq_true, Bool.or_eq_true, Bool.not_eq_true', Bool.not_eq_false', Bool.and_eq_false_iff, Bool.or_eq_false_iff, decide_eq_true_eq, decide_eq_false_iff_not, Int.not_lt, Int.not_le, ne_eq, Decidable.not_not] at h6
          have e_ : b = q := by omega
          subst b
          refine WC.exit ?_
          refine QX.exit_then ?_
          refine QX.exit_then ?_
          refine QX.exit_hit ?_
          refine QX.then_ ?_
          refine WC.seq ?_
          refine WC.region ?_
          refine SL.pure rfl rfl rfl (PureOp.move rfl) ?_
          refine SL.pure rfl rfl rfl (PureOp.len rfl Tryd.underlying22) ?_
          refine SL.pure rfl rfl rfl (PureOp.add rfl rfl (fun _ => by omega)) ?_
          refine SL.pure rfl rfl rfl (PureOp.move rfl) ?_
          refine SL.pure rfl rfl rfl (PureOp.len rfl Tryd.underlying23) ?_
          refine SL.pure rfl rfl rfl (PureOp.add rfl rfl (fun _ => by omega)) ?_
          refine SL.pure rfl rfl rfl (PureOp.assign rfl) ?_
          refine SL.nil_then ?_
          refine WC.seq ?_
          refine WC.region ?_
          refine SL.pure rfl rfl rfl (PureOp.move rfl) ?_
          refine SL.pure rfl rfl rfl (PureOp.move rfl) ?_
          refine SL.pure rfl rfl rfl (PureOp.move rfl) ?_
          refine SL.pure rfl rfl rfl (PureOp.sub rfl rfl (fun _ => by omega)) ?_
          refine SL.pure rfl rfl rfl (PureOp.move rfl) ?_
          refine SL.callo (fun ga gc => .tuple #[.slice ga (m + wayS l m + q) gc, .int .i64 S.2.1, .int .i64 S.2.2, .int .i64 0]) rfl rfl rfl rfl rfl rfl callable8 (fun w hw => (by have h := solve_ok (2 + (m : Int) + (q : Int)) (edU m q l c q) be (m + wayS l m + q) bc (by rw [edU_len]) 0 (2 + (m : Int) + (q : Int) - 1) (peoT l m) hck2 ⟨by omega, by omega⟩ K1 S hs w (SliceIn.rows (l := (edU m q l c q)) (hw.mem (i := 1) rfl) encEd_len (by rw [edU_len]; exact Nat.le_refl _)); exact h)) (fun ga gc => ?_)
          refine SL.norm [_, _, _] rfl ?_
          refine SL.pure rfl rfl rfl (PureOp.move rfl) ?_
          refine SL.pure rfl rfl rfl (PureOp.extract rfl rfl) ?_
          refine SL.pure rfl rfl rfl (PureOp.extract rfl rfl) ?_
          refine SL.pure rfl rfl rfl (PureOp.extract rfl rfl) ?_
          refine SL.pure rfl rfl rfl (PureOp.extract rfl rfl) ?_
          refine SL.pure rfl rfl rfl (PureOp.assign rfl) ?_
          refine SL.pure rfl rfl rfl (PureOp.assign rfl) ?_
          refine SL.pure rfl rfl rfl (PureOp.assign rfl) ?_
          refine SL.pure rfl rfl rfl (PureOp.assign rfl) ?_
          refine SL.nil_then ?_
          refine WC.seq ?_
          refine WC.region ?_
          refine SL.pure rfl rfl rfl (PureOp.move rfl) ?_
          refine SL.pure rfl rfl rfl (PureOp.move rfl) ?_
          refine SL.pure rfl rfl rfl (PureOp.move rfl) ?_
          refine SL.callo (fun ha hc_ => .tuple #[.slice ha ((pricesF (2 + (m : Int) + (q : Int)) (edU m q l c q) S.1).1.length) hc_, .bool true]) rfl rfl rfl rfl rfl rfl callable9 (fun w hw => (by have h := prices_ok (2 + (m : Int) + (q : Int)) (edU m q l c q) be (m + wayS l m + q) bc (by rw [edU_len]) S.1 ga (m + wayS l m + q) gc (by rw [hSl, edU_len]) w (SliceIn.rows (l := (edU m q l c q)) (hw.mem (i := 1) rfl) encEd_len (by rw [edU_len]; exact Nat.le_refl _)) (SliceIn.rows (l := S.1) (hw.mem (i := 2) rfl) encI_len (by rw [hSl, edU_len]; exact Nat.le_refl _)); rw [hp] at h; exact h)) (fun ha hc_ => ?_)
          refine SL.norm [_, _, _, _] rfl ?_
          refine SL.pure rfl rfl rfl (PureOp.move rfl) ?_
          refine SL.pure rfl rfl rfl (PureOp.extract rfl rfl) ?_
          refine SL.pure rfl rfl rfl (PureOp.extract rfl rfl) ?_
          refine SL.pure rfl rfl rfl (PureOp.assign rfl) ?_
          refine SL.pure rfl rfl rfl (PureOp.assign rfl) ?_
          refine SL.nil_then ?_
          refine WC.seq ?_
          refine WC.region ?_
          refine SL.pure rfl rfl rfl (PureOp.move rfl) ?_
          refine SL.pure rfl rfl rfl (PureOp.eql rfl rfl) ?_
          refine SL.lit 195 true rfl (by decide) ?_
          refine SL.pure rfl rfl rfl (PureOp.move rfl) ?_
          refine SL.ung rfl rfl rfl rfl ?_
          refine SL.pure rfl rfl rfl (PureOp.move rfl) ?_
          refine SL.ung rfl rfl rfl rfl ?_
          refine SL.pure rfl rfl rfl (PureOp.move rfl) ?_
          refine SL.ung rfl rfl rfl rfl ?_
          refine SL.pure rfl rfl rfl (PureOp.eql rfl rfl) ?_
          refine SL.lit 199 true rfl (decide_eq_true h1S) ?_
          refine SL.pure rfl rfl rfl (PureOp.pickT rfl rfl) ?_
          refine SL.pure rfl rfl rfl (PureOp.move rfl) ?_
          refine SL.ung rfl rfl rfl rfl ?_
          refine SL.pure rfl rfl rfl (PureOp.move rfl) ?_
          refine SL.ung rfl rfl rfl rfl ?_
          refine SL.pure rfl rfl rfl (PureOp.move rfl) ?_
          refine SL.ung rfl rfl rfl rfl ?_
          refine SL.pure rfl rfl rfl (PureOp.eql rfl rfl) ?_
          refine SL.lit 204 true rfl (decide_eq_true h2S) ?_
          refine SL.pure rfl rfl rfl (PureOp.pickT rfl rfl) ?_
          refine SL.pure rfl rfl rfl (PureOp.move rfl) ?_
          refine SL.ung rfl rfl rfl rfl ?_
          refine SL.pure rfl rfl rfl (PureOp.move rfl) ?_
          refine SL.pure rfl rfl rfl (PureOp.pickT rfl rfl) ?_
          refine SL.pure rfl rfl rfl (PureOp.move rfl) ?_
          refine SL.ung rfl rfl rfl rfl ?_
          refine SL.pure rfl rfl rfl (PureOp.move rfl) ?_
          refine SL.ung rfl rfl rfl rfl ?_
          refine SL.pure rfl rfl rfl (PureOp.move rfl) ?_
          refine SL.ung rfl rfl rfl rfl ?_
          refine SL.pure rfl rfl rfl (PureOp.move rfl) ?_
          refine SL.ung rfl rfl rfl rfl ?_
          refine SL.pure rfl rfl rfl (PureOp.move rfl) ?_
          refine SL.ung rfl rfl rfl rfl ?_
          refine SL.calle rfl rfl rfl rfl rfl rfl callable10 (fun w hw => (by have h := pproves_ok (2 + (m : Int) + (q : Int)) (edU m q l c q) be (m + wayS l m + q) bc (by rw [edU_len]) S.1 ga (m + wayS l m + q) gc (by rw [hSl, edU_len]) (pricesF (2 + (m : Int) + (q : Int)) (edU m q l c q) S.1).1 ha _ hc_ rfl w (SliceIn.rows (l := (edU m q l c q)) (hw.mem (i := 1) rfl) encEd_len (by rw [edU_len]; exact Nat.le_refl _)) (SliceIn.rows (l := S.1) (hw.mem (i := 2) rfl) encI_len (by rw [hSl, edU_len]; exact Nat.le_refl _)) (SliceIn.rows (l := (pricesF (2 + (m : Int) + (q : Int)) (edU m q l c q) S.1).1) (hw.mem (i := 3) rfl) encI_len (Nat.le_refl _)); rw [hpp] at h; exact h)) ?_
          refine SL.norm [_, _, _, _] rfl ?_
          refine SL.pure rfl rfl rfl (PureOp.pickT rfl rfl) ?_
          refine SL.pure rfl rfl rfl (PureOp.move rfl) ?_
          refine SL.ung rfl rfl rfl rfl ?_
          refine SL.calle rfl rfl rfl rfl rfl rfl callable4 (fun w hw => awake_ok w (hT.below hw.below)) ?_
          refine SL.norm [_, _, _, _] rfl ?_
          refine SL.pure rfl rfl rfl (PureOp.pickT rfl rfl) ?_
          refine SL.pure rfl rfl rfl (PureOp.assign rfl) ?_
          refine SL.nil_then ?_
          refine WC.ret ?_
          refine QX.ret1 rfl rfl ?_
          intro w hw
          rfl

set_option maxHeartbeats 4000000 in
set_option maxRecDepth 100000 in
theorem top_big (w0 : World) (l : List Pa) (la : Option Addr) (m lc : Nat) (hm : m = l.length) (hI : ∀ i, i < m → SliceIn w0 2 (nth l i).2.2.ao (nth l i).2.2.l.length (nth l i).2.2.cap (rowsF enc77 (nth l i).2.2.l)) (sL : SliceIn w0 3 la m lc (rowsF enc55 l)) (c : List Int) (ca : Option Addr) (q cc : Nat) (hq : q = c.length) (sC : SliceIn w0 1 ca q cc (rowsF encI c)) (hT : LenIn w0) (hbig : ¬ (m ≤ 5 ∧ q ≤ 5 ∧ ∀ i, i < m → (nth l i).2.2.l.length ≤ 6)) : FnC Tryd.prog 3 [.slice la m lc, .slice ca q cc] w0 fun v w' => v = .bool true := by
  have hmB : (m : Int) ≤ 9223372036854775807 := by
    have h1 := sL.le; have h2 := sL.max; simp only [maxLen] at h2; omega
  have hIb : ∀ i, i < m → ((nth l i).2.2.l.length : Int) ≤ 9223372036854775807 := fun i hi => by
    have h1 := (hI i hi).le; have h2 := (hI i hi).max; simp only [maxLen] at h2; omega
  refine fnc (N := 219) Tryd.func3 rfl rfl rfl ?_
  refine WC.seq ?_
  refine WC.region ?_
  refine SL.pure rfl rfl rfl (PureOp.assign rfl) ?_
  refine SL.nil_then ?_
  refine WC.seq ?_
  refine WC.seq ?_
  refine WC.region ?_
  refine SL.pure rfl rfl rfl (PureOp.move rfl) ?_
  refine SL.pure rfl rfl rfl (PureOp.len rfl Tryd.underlying22) ?_
  refine SL.pure rfl rfl rfl (PureOp.gtr rfl rfl) ?_
  refine SL.pure rfl rfl rfl (PureOp.move rfl) ?_
  refine SL.newg 26 false rfl ?_
  refine SL.gpure (c := 1) rfl rfl rfl rfl rfl rfl rfl (PureOp.move rfl) ?_
  refine SL.gpure (c := 1) rfl rfl rfl rfl rfl rfl rfl (PureOp.len rfl Tryd.underlying23) ?_
  refine SL.gpure (c := 1) rfl rfl rfl rfl rfl rfl rfl (PureOp.gtr rfl rfl) ?_
  refine SL.pure rfl rfl rfl (PureOp.or_ rfl rfl rfl rfl) ?_
  refine SL.nil_then ?_
  refine WC.cond rfl (fun h1 => ?_) (fun h1 => ?_)
  · try simp only [Bool.and_eq_true, Bool.or_eq_true, Bool.not_eq_true', Bool.not_eq_false', Bool.and_eq_false_iff, Bool.or_eq_false_iff, decide_eq_true_eq, decide_eq_false_iff_not, Int.not_lt, Int.not_le, ne_eq, Decidable.not_not] at h1
    refine WC.seq ?_
    refine WC.region ?_
    refine SL.calle rfl rfl rfl rfl rfl rfl callable4 (fun w hw => awake_ok w (hT.below hw.below)) ?_
    refine SL.norm [] rfl ?_
    refine SL.pure rfl rfl rfl (PureOp.assign rfl) ?_
    refine SL.nil_then ?_
    refine WC.ret ?_
    refine QX.ret_then ?_
    refine QX.ret1 rfl rfl ?_
    intro w hw
    rfl
  · try simp only [Bool.and_eq_true, Bool.or_eq_true, Bool.not_eq_true', Bool.not_eq_false', Bool.and_eq_false_iff, Bool.or_eq_false_iff, decide_eq_true_eq, decide_eq_false_iff_not, Int.not_lt, Int.not_le, ne_eq, Decidable.not_not] at h1
    refine WC.skip ?_
    refine QX.then_ ?_
    refine WC.seq ?_
    refine WC.seq ?_
    refine WC.region ?_
    refine SL.pure rfl rfl rfl (PureOp.assign rfl) ?_
    refine SL.nil_then ?_
    refine WC.block ?_
    refine WC.loop (σ := Nat) (fun q_ => [(0, 0, .slice la m lc), (1, 0, .slice ca q cc), (23, 0, .slice la m lc), (24, 0, .int .i64 ((m : Nat) : Int)), (25, 0, .bool (decide (5 < ((m : Nat) : Int)))), (26, 0, .bool (decide (5 < ((m : Nat) : Int)))), (30, 0, .bool ((decide (5 < ((m : Nat) : Int))) || (decide (5 < ((q : Nat) : Int))))), (5, 0, .int .i64 ((q_ : Nat) : Int))]) (fun q_ => []) (fun q_ => q_ ≤ m ∧ ∀ i, i < q_ → (nth l i).2.2.l.length ≤ 6) (fun q_ => m - q_) 0 (0) (⟨Nat.zero_le _, fun i hi => by omega⟩) ⟨rfl, rfl, rfl, rfl, rfl, rfl, rfl, rfl, rfl, rfl, rfl, rfl, rfl, rfl, rfl, rfl, trivial⟩ rfl ?_
    rintro k ⟨hk, hall⟩
    refine WC.seq ?_
    refine WC.seq ?_
    refine WC.region ?_
    refine SL.pure rfl rfl rfl (PureOp.move rfl) ?_
    refine SL.pure rfl rfl rfl (PureOp.move rfl) ?_
    refine SL.pure rfl rfl rfl (PureOp.len rfl Tryd.underlying22) ?_
    refine SL.pure rfl rfl rfl (PureOp.lss rfl rfl) ?_
    refine SL.nil_then ?_
    refine WC.cond rfl (fun h2 => ?_) (fun h2 => ?_)
    · try simp only [Bool.and_eq_true, Bool.or_eq_true, Bool.not_eq_true', Bool.not_eq_false', Bool.and_eq_false_iff, Bool.or_eq_false_iff, decide_eq_true_eq, decide_eq_false_iff_not, Int.not_lt, Int.not_le, ne_eq, Decidable.not_not] at h2
      refine WC.skip ?_
      refine QX.then_ ?_
      refine WC.seq ?_
      refine WC.block ?_
      refine WC.seq ?_
      refine WC.region ?_
      refine SL.pure rfl rfl rfl (PureOp.move rfl) ?_
      refine SL.pure rfl rfl rfl (PureOp.move rfl) ?_
      refine SL.pure rfl rfl rfl (PureOp.indexAddrN Tryd.underlying22 sz27 rfl rfl (AoOk.in_ sL) (fun _ => by omega)) ?_
      refine SL.pure rfl rfl rfl (PureOp.fieldAddr 2 Tryd.underlying27 rfl rfl sz25 rfl) ?_
      refine SL.pure rfl rfl rfl (PureOp.load (v := .slice ((nth l k).2.2.ao) ((nth l k).2.2.l.length) ((nth l k).2.2.cap)) Tryd.underlying25 rfl rfl (fun _ => (CellIs.in_ sL k 2 (by omega) (by omega)))) ?_
      refine SL.pure rfl rfl rfl (PureOp.len rfl Tryd.underlying25) ?_
      refine SL.pure rfl rfl rfl (PureOp.gtr rfl rfl) ?_
      refine SL.nil_then ?_
      refine WC.cond rfl (fun h3 => ?_) (fun h3 => ?_)
      · try simp only [Bool.and_eq_true, Bool.or_eq_true, Bool.not_eq_true', Bool.not_eq_false', Bool.and_eq_false_iff, Bool.or_eq_false_iff, decide_eq_true_eq, decide_eq_false_iff_not, Int.not_lt, Int.not_le, ne_eq, Decidable.not_not] at h3
        refine WC.seq ?_
        refine WC.region ?_
        refine SL.calle rfl rfl rfl rfl rfl rfl callable4 (fun w hw => awake_ok w (hT.below hw.below)) ?_
        refine SL.norm [] rfl ?_
        refine SL.pure rfl rfl rfl (PureOp.assign rfl) ?_
        refine SL.nil_then ?_
        refine WC.ret ?_
        refine QX.ret_in ?_
        refine QX.ret_then ?_
        refine QX.ret_then ?_
        refine QX.ret_in ?_
        refine QX.ret_then ?_
        refine QX.ret1 rfl rfl ?_
        intro w hw
        rfl
      · try simp only [Bool.and_eq_true, Bool.or_eq_true, Bool.not_eq_true', Bool.not_eq_false', Bool.and_eq_false_iff, Bool.or_eq_false_iff, decide_eq_true_eq, decide_eq_false_iff_not, Int.not_lt, Int.not_le, ne_eq, Decidable.not_not] at h3
        refine WC.skip ?_
        refine QX.normal_in ?_
        refine QX.then_ ?_
        refine WC.region ?_
        refine SL.pure rfl rfl rfl (PureOp.move rfl) ?_
        refine SL.pure rfl rfl rfl (PureOp.addN (k := 1) rfl rfl (fun _ => by omega)) ?_
        refine SL.pure rfl rfl rfl (PureOp.assign rfl) ?_
        refine SL.nil ?_
        refine QX.round 0 (k + 1) ⟨⟨(by first | omega | (dsimp only; omega)), fun i hi => (Nat.lt_or_ge i k).elim (hall i) (fun h => by rw [show i = k by omega]; omega)⟩, by first | omega | (dsimp only; omega)⟩ ⟨rfl, rfl, rfl, rfl, rfl, rfl, rfl, rfl, rfl, rfl, rfl, rfl, rfl, rfl, rfl, rfl, trivial⟩ rfl
    · try simp only [Bool.and_eq_true, Bool.or_eq_true, Bool.not_eq_true', Bool.not_eq_false', Bool.and_eq_false_iff, Bool.or_eq_false_iff, decide_eq_true_eq, decide_eq_false_iff_not, Int.not_lt, Int.not_le, ne_eq, Decidable.not_not] at h2
      exact absurd ⟨by omega, by omega, fun i hi => hall i (by omega)⟩ hbig

end Go.Proofs.YtngkbnaehkailaaDoor
