import Derived.Test.YtipmdakhmpaemaaPlain
import Derived.Test.YtipmdakhmpaemaaFacts
namespace Go.Proofs.Ytipmdakhmpaemaa
open Go Go.RowKit Eng
set_option linter.unusedVariables false
set_option linter.unusedSimpArgs false

set_option maxHeartbeats 4000000 in
set_option maxRecDepth 100000 in
theorem rule_ok (u1 u2 : SliceV Unit) (fl : List Fa) (rl : List Ru) (fao rao : Option Addr) (fn fcap rn rcap : Nat) (hfn : fn = fl.length) (hrn : rn = rl.length) (w0 : World) (hf : SliceIn w0 9 fao fn fcap (rowsF enc94 fl)) (hr : SliceIn w0 15 rao rn rcap (rowsF enc92 rl)) (hfb : fn ≤ 1000) (hrb : rn ≤ 1000) (num : Int) : FnC Try.prog 46 [.agg #[.slice fao fn fcap, .slice rao rn rcap, .slice u1.ao u1.l.length u1.cap, .slice u2.ao u2.l.length u2.cap], .int .i64 num] w0 fun v w' => v = .tuple #[.agg (enc92 (ruleE rl num).1).toArray, .bool (ruleE rl num).2] := by
  refine fnc (N := 22) Try.func46 rfl rfl rfl ?_
  refine WC.seq ?_
  refine WC.region ?_
  refine SL.box rfl rfl rfl (fun b1 hb1 => ?_)
  refine SL.norm [_] rfl ?_
  refine SL.alloc rfl rfl zero92 (fun b2 hb2 => ?_)
  refine SL.norm [_, _] rfl ?_
  refine SL.pure rfl rfl rfl (PureOp.assign rfl) ?_
  refine SL.nil_then ?_
  refine WC.seq ?_
  refine WC.seq ?_
  refine WC.region ?_
  refine SL.pure rfl rfl rfl (PureOp.fieldAddrT 1 Try.underlying52 rfl sz48 rfl rfl) ?_
  refine SL.pure rfl rfl rfl (PureOp.load (v := .slice rao rn rcap) Try.underlying48 rfl rfl (fun _ => (CellIs.cells 0 rfl rfl))) ?_
  refine SL.pure rfl rfl rfl (PureOp.len rfl Try.underlying48) ?_
  refine SL.pure rfl rfl rfl (PureOp.move rfl) ?_
  refine SL.nil_then ?_
  refine WC.block ?_
  refine WC.loop (σ := Nat) (fun q_ => [(0, 0, .agg #[.slice fao fn fcap, .slice rao rn rcap, .slice u1.ao u1.l.length u1.cap, .slice u2.ao u2.l.length u2.cap]), (1, 0, .int .i64 num), (2, 0, .pointer (some ⟨b1, 0, none⟩)), (4, 0, .pointer (some ⟨b2, 0, none⟩)), (8, 0, .pointer (some ⟨b1, 1, none⟩)), (9, 0, .slice rao rn rcap), (10, 0, .int .i64 ((rn : Nat) : Int)), (11, 0, .int .i64 ((q_ : Nat) : Int))]) (fun q_ => [Item.cells b1 [.slice fao fn fcap, .slice rao rn rcap, .slice u1.ao u1.l.length u1.cap, .slice u2.ao u2.l.length u2.cap] 52, Item.cells b2 [.int .i64 0, .int .i64 0, .slice none 0 0, .int .i64 0, .int .i64 0, .int .i64 0, .int .i64 0, .int .i64 0, .slice none 0 0, .slice none 0 0, .int .i64 0, .int .i64 0, .int .i64 0, .int .i64 0, .slice none 0 0] 92]) (fun q_ => q_ ≤ rn ∧ ruleE (rl.drop q_) num = ruleE rl num) (fun q_ => rn - q_) 2 (0) (⟨Nat.zero_le _, rfl⟩) ⟨rfl, rfl, rfl, rfl, rfl, rfl, rfl, rfl, rfl, rfl, rfl, rfl, rfl, rfl, rfl, rfl, trivial⟩ rfl ?_
  rintro k ⟨hk, hs⟩
  refine WC.seq ?_
  refine WC.region ?_
  refine SL.pure rfl rfl rfl (PureOp.lss rfl rfl) ?_
  refine SL.nil_then ?_
  refine WC.seq ?_
  refine WC.cond rfl (fun h1 => ?_) (fun h1 => ?_)
  · try simp only [Bool.and_eq_true, Bool.or_eq_true, Bool.not_eq_true', Bool.not_eq_false', Bool.and_eq_false_iff, Bool.or_eq_false_iff, decide_eq_true_eq, decide_eq_false_iff_not, Int.not_lt, Int.not_le, ne_eq, Decidable.not_not] at h1
    refine WC.skip ?_
    refine QX.then_ ?_
    refine WC.seq ?_
    refine WC.block ?_
    refine WC.seq ?_
    refine WC.region ?_
    refine SL.pure rfl rfl rfl (PureOp.indexAddrN Try.underlying48 sz92 rfl rfl (AoOk.in_ hr) (fun _ => by omega)) ?_
    refine SL.pure rfl rfl rfl (PureOp.loads (vs := [.int .i64 ((nth rl k).1), .int .i64 ((nth rl k).2.1.1), .slice ((nth rl k).2.1.2.1.ao) ((nth rl k).2.1.2.1.l.length) ((nth rl k).2.1.2.1.cap), .int .i64 ((nth rl k).2.1.2.2.1), .int .i64 ((nth rl k).2.1.2.2.2.1), .int .i64 ((nth rl k).2.1.2.2.2.2.1.1), .int .i64 ((nth rl k).2.1.2.2.2.2.1.2.1), .int .i64 ((nth rl k).2.1.2.2.2.2.1.2.2), .slice ((nth rl k).2.1.2.2.2.2.2.ao) ((nth rl k).2.1.2.2.2.2.2.l.length) ((nth rl k).2.1.2.2.2.2.2.cap), .slice ((nth rl k).2.2.1.ao) ((nth rl k).2.2.1.l.length) ((nth rl k).2.2.1.cap), .int .i64 ((nth rl k).2.2.2.1), .int .i64 ((nth rl k).2.2.2.2.1), .int .i64 ((nth rl k).2.2.2.2.2.1), .int .i64 ((nth rl k).2.2.2.2.2.2.1), .slice ((nth rl k).2.2.2.2.2.2.2.ao) ((nth rl k).2.2.2.2.2.2.2.l.length) ((nth rl k).2.2.2.2.2.2.2.cap)]) Try.underlying92 rfl rfl (fun _ => (RowIs.in_ hr k 0 15 (by omega) (by omega))) sz92) ?_
    refine SL.alloc rfl rfl zero92 (fun b3 hb3 => ?_)
    refine SL.norm [_, _, _] rfl ?_
    refine SL.store 2 rfl rfl rfl rfl sz92 rfl rfl ?_
    refine SL.norm [_, _, _] rfl ?_
    refine SL.nil_then ?_
    refine WC.seq ?_
    refine WC.region ?_
    refine SL.pure rfl rfl rfl (PureOp.fieldAddrT 0 Try.underlying92 rfl sz3 rfl rfl) ?_
    refine SL.pure rfl rfl rfl (PureOp.load (v := .int .i64 ((nth rl k).1)) Try.underlying3 rfl rfl (fun _ => (CellIs.cells 2 rfl rfl))) ?_
    refine SL.pure rfl rfl rfl (PureOp.move rfl) ?_
    refine SL.pure rfl rfl rfl (PureOp.eql rfl rfl) ?_
    refine SL.nil_then ?_
    refine WC.cond rfl (fun h2 => ?_) (fun h2 => ?_)
    · try simp only [Bool.and_eq_true, Bool.or_eq_true, Bool.not_eq_true', Bool.not_eq_false', Bool.and_eq_false_iff, Bool.or_eq_false_iff, decide_eq_true_eq, decide_eq_false_iff_not, Int.not_lt, Int.not_le, ne_eq, Decidable.not_not] at h2
      refine WC.seq ?_
      refine WC.region ?_
      refine SL.pure rfl rfl rfl (PureOp.loads (vs := [.int .i64 ((nth rl k).1), .int .i64 ((nth rl k).2.1.1), .slice ((nth rl k).2.1.2.1.ao) ((nth rl k).2.1.2.1.l.length) ((nth rl k).2.1.2.1.cap), .int .i64 ((nth rl k).2.1.2.2.1), .int .i64 ((nth rl k).2.1.2.2.2.1), .int .i64 ((nth rl k).2.1.2.2.2.2.1.1), .int .i64 ((nth rl k).2.1.2.2.2.2.1.2.1), .int .i64 ((nth rl k).2.1.2.2.2.2.1.2.2), .slice ((nth rl k).2.1.2.2.2.2.2.ao) ((nth rl k).2.1.2.2.2.2.2.l.length) ((nth rl k).2.1.2.2.2.2.2.cap), .slice ((nth rl k).2.2.1.ao) ((nth rl k).2.2.1.l.length) ((nth rl k).2.2.1.cap), .int .i64 ((nth rl k).2.2.2.1), .int .i64 ((nth rl k).2.2.2.2.1), .int .i64 ((nth rl k).2.2.2.2.2.1), .int .i64 ((nth rl k).2.2.2.2.2.2.1), .slice ((nth rl k).2.2.2.2.2.2.2.ao) ((nth rl k).2.2.2.2.2.2.2.l.length) ((nth rl k).2.2.2.2.2.2.2.cap)]) Try.underlying92 rfl rfl (fun _ => (RowIs.cells 2 0 15 rfl rfl)) sz92) ?_
      refine SL.store 1 rfl rfl rfl rfl sz92 rfl rfl ?_
      refine SL.norm [_, _, _] rfl ?_
      refine SL.pure rfl rfl rfl (PureOp.assign rfl) ?_
      refine SL.nil_then ?_
      refine WC.ret ?_
      refine QX.ret_in ?_
      refine QX.ret_then ?_
      refine QX.ret_then ?_
      refine QX.ret_in ?_
      refine QX.ret_then ?_
      refine QX.retv rfl (RVs.cons (RV.cell rfl Try.underlying92 rfl (RowIs.cells 1 0 15 rfl rfl) sz92) (RVs.cons (RV.tmp rfl) RVs.nil)) ?_
      intro w hw
      rw [ruleE_drop (by omega), if_pos h2] at hs
      rw [← hs]; rfl
    · try simp only [Bool.and_eq_true, Bool.or_eq_true, Bool.not_eq_true', Bool.not_eq_false', Bool.and_eq_false_iff, Bool.or_eq_false_iff, decide_eq_true_eq, decide_eq_false_iff_not, Int.not_lt, Int.not_le, ne_eq, Decidable.not_not] at h2
      refine WC.skip ?_
      refine QX.normal_in ?_
      refine QX.then_ ?_
      refine WC.region ?_
      refine SL.pure rfl rfl rfl (PureOp.addN (k := 1) rfl rfl (fun _ => by omega)) ?_
      refine SL.pure rfl rfl rfl (PureOp.move rfl) ?_
      refine SL.nil ?_
      refine QX.round 2 (k + 1) ⟨⟨(by first | omega | (dsimp only; omega)), by rw [ruleE_drop (by omega), if_neg h2] at hs; exact hs⟩, by first | omega | (dsimp only; omega)⟩ ⟨rfl, rfl, rfl, rfl, rfl, rfl, rfl, rfl, rfl, rfl, rfl, rfl, rfl, rfl, rfl, rfl, trivial⟩ rfl
  · try simp only [Bool.and_eq_true, Bool.or_eq_true, Bool.not_eq_true', Bool.not_eq_false', Bool.and_eq_false_iff, Bool.or_eq_false_iff, decide_eq_true_eq, decide_eq_false_iff_not, Int.not_lt, Int.not_le, ne_eq, Decidable.not_not] at h1
    refine WC.exit ?_
    refine QX.exit_then ?_
    refine QX.exit_then ?_
    refine QX.exit_hit ?_
    refine QX.then_ ?_
    refine WC.seq ?_
    refine WC.region ?_
    refine SL.pure rfl rfl rfl (PureOp.build bld92 rfl rfl) ?_
    refine SL.store 1 rfl rfl rfl rfl sz92 rfl rfl ?_
    refine SL.norm [_, _] rfl ?_
    refine SL.pure rfl rfl rfl (PureOp.assign rfl) ?_
    refine SL.nil_then ?_
    refine WC.ret ?_
    refine QX.retv rfl (RVs.cons (RV.cell rfl Try.underlying92 rfl (RowIs.cells 1 0 15 rfl rfl) sz92) (RVs.cons (RV.tmp rfl) RVs.nil)) ?_
    intro w hw
    rw [ruleE_end (by omega)] at hs
    rw [← hs]; rfl

set_option maxHeartbeats 4000000 in
set_option maxRecDepth 100000 in
theorem rrule_ok (u1 u2 : SliceV Unit) (fl : List Fa) (rl : List Ru) (fao rao : Option Addr) (fn fcap rn rcap : Nat) (hfn : fn = fl.length) (hrn : rn = rl.length) (w0 : World) (hf : SliceIn w0 9 fao fn fcap (rowsF enc94 fl)) (hr : SliceIn w0 15 rao rn rcap (rowsF enc92 rl)) (hfb : fn ≤ 1000) (hrb : rn ≤ 1000) (num : Int) : FnC Try.prog 47 [.agg #[.slice fao fn fcap, .slice rao rn rcap, .slice u1.ao u1.l.length u1.cap, .slice u2.ao u2.l.length u2.cap], .int .i64 num] w0 fun v w' => v = .tuple #[.agg (enc92 (ruleE rl num).1).toArray, .bool (ruleE rl num).2] := by
  refine fnc (N := 28) Try.func47 rfl rfl rfl ?_
  refine WC.seq ?_
  refine WC.region ?_
  refine SL.box rfl rfl rfl (fun b1 hb1 => ?_)
  refine SL.norm [_] rfl ?_
  refine SL.alloc rfl rfl zero92 (fun b2 hb2 => ?_)
  refine SL.norm [_, _] rfl ?_
  refine SL.pure rfl rfl rfl (PureOp.assign rfl) ?_
  refine SL.nil_then ?_
  refine WC.seq ?_
  refine WC.seq ?_
  refine WC.region ?_
  refine SL.pure rfl rfl rfl (PureOp.assign rfl) ?_
  refine SL.nil_then ?_
  refine WC.block ?_
  refine WC.loop (σ := Nat) (fun q_ => [(0, 0, .agg #[.slice fao fn fcap, .slice rao rn rcap, .slice u1.ao u1.l.length u1.cap, .slice u2.ao u2.l.length u2.cap]), (1, 0, .int .i64 num), (2, 0, .pointer (some ⟨b1, 0, none⟩)), (4, 0, .pointer (some ⟨b2, 0, none⟩)), (6, 0, .int .i64 ((q_ : Nat) : Int))]) (fun q_ => [Item.cells b1 [.slice fao fn fcap, .slice rao rn rcap, .slice u1.ao u1.l.length u1.cap, .slice u2.ao u2.l.length u2.cap] 52, Item.cells b2 [.int .i64 0, .int .i64 0, .slice none 0 0, .int .i64 0, .int .i64 0, .int .i64 0, .int .i64 0, .int .i64 0, .slice none 0 0, .slice none 0 0, .int .i64 0, .int .i64 0, .int .i64 0, .int .i64 0, .slice none 0 0] 92]) (fun q_ => q_ ≤ rn ∧ ruleE (rl.drop q_) num = ruleE rl num) (fun q_ => rn - q_) 2 (0) (⟨Nat.zero_le _, rfl⟩) ⟨rfl, rfl, rfl, rfl, rfl, rfl, rfl, rfl, rfl, rfl, trivial⟩ rfl ?_
  rintro k ⟨hk, hs⟩
  refine WC.seq ?_
  refine WC.seq ?_
  refine WC.region ?_
  refine SL.pure rfl rfl rfl (PureOp.move rfl) ?_
  refine SL.pure rfl rfl rfl (PureOp.fieldAddrT 1 Try.underlying52 rfl sz48 rfl rfl) ?_
  refine SL.pure rfl rfl rfl (PureOp.load (v := .slice rao rn rcap) Try.underlying48 rfl rfl (fun _ => (CellIs.cells 0 rfl rfl))) ?_
  refine SL.pure rfl rfl rfl (PureOp.len rfl Try.underlying48) ?_
  refine SL.pure rfl rfl rfl (PureOp.lss rfl rfl) ?_
  refine SL.nil_then ?_
  refine WC.cond rfl (fun h1 => ?_) (fun h1 => ?_)
  · try simp only [Bool.and_eq_true, Bool.or_eq_true, Bool.not_eq_true', Bool.not_eq_false', Bool.and_eq_false_iff, Bool.or_eq_false_iff, decide_eq_true_eq, decide_eq_false_iff_not, Int.not_lt, Int.not_le, ne_eq, Decidable.not_not] at h1
    refine WC.skip ?_
    refine QX.then_ ?_
    refine WC.seq ?_
    refine WC.block ?_
    refine WC.seq ?_
    refine WC.region ?_
    refine SL.pure rfl rfl rfl (PureOp.fieldAddrT 1 Try.underlying52 rfl sz48 rfl rfl) ?_
    refine SL.pure rfl rfl rfl (PureOp.load (v := .slice rao rn rcap) Try.underlying48 rfl rfl (fun _ => (CellIs.cells 0 rfl rfl))) ?_
    refine SL.pure rfl rfl rfl (PureOp.move rfl) ?_
    refine SL.pure rfl rfl rfl (PureOp.indexAddrN Try.underlying48 sz92 rfl rfl (AoOk.in_ hr) (fun _ => by omega)) ?_
    refine SL.pure rfl rfl rfl (PureOp.fieldAddr 0 Try.underlying92 rfl rfl sz3 rfl) ?_
    refine SL.pure rfl rfl rfl (PureOp.load (v := .int .i64 ((nth rl k).1)) Try.underlying3 rfl rfl (fun _ => (CellIs.in_ hr k 0 (by omega) (by omega)))) ?_
    refine SL.pure rfl rfl rfl (PureOp.move rfl) ?_
    refine SL.pure rfl rfl rfl (PureOp.eql rfl rfl) ?_
    refine SL.nil_then ?_
    refine WC.cond rfl (fun h2 => ?_) (fun h2 => ?_)
    · try simp only [Bool.and_eq_true, Bool.or_eq_true, Bool.not_eq_true', Bool.not_eq_false', Bool.and_eq_false_iff, Bool.or_eq_false_iff, decide_eq_true_eq, decide_eq_false_iff_not, Int.not_lt, Int.not_le, ne_eq, Decidable.not_not] at h2
      refine WC.seq ?_
      refine WC.region ?_
      refine SL.pure rfl rfl rfl (PureOp.fieldAddrT 1 Try.underlying52 rfl sz48 rfl rfl) ?_
      refine SL.pure rfl rfl rfl (PureOp.load (v := .slice rao rn rcap) Try.underlying48 rfl rfl (fun _ => (CellIs.cells 0 rfl rfl))) ?_
      refine SL.pure rfl rfl rfl (PureOp.move rfl) ?_
      refine SL.pure rfl rfl rfl (PureOp.indexAddrN Try.underlying48 sz92 rfl rfl (AoOk.in_ hr) (fun _ => by omega)) ?_
      refine SL.pure rfl rfl rfl (PureOp.loads (vs := [.int .i64 ((nth rl k).1), .int .i64 ((nth rl k).2.1.1), .slice ((nth rl k).2.1.2.1.ao) ((nth rl k).2.1.2.1.l.length) ((nth rl k).2.1.2.1.cap), .int .i64 ((nth rl k).2.1.2.2.1), .int .i64 ((nth rl k).2.1.2.2.2.1), .int .i64 ((nth rl k).2.1.2.2.2.2.1.1), .int .i64 ((nth rl k).2.1.2.2.2.2.1.2.1), .int .i64 ((nth rl k).2.1.2.2.2.2.1.2.2), .slice ((nth rl k).2.1.2.2.2.2.2.ao) ((nth rl k).2.1.2.2.2.2.2.l.length) ((nth rl k).2.1.2.2.2.2.2.cap), .slice ((nth rl k).2.2.1.ao) ((nth rl k).2.2.1.l.length) ((nth rl k).2.2.1.cap), .int .i64 ((nth rl k).2.2.2.1), .int .i64 ((nth rl k).2.2.2.2.1), .int .i64 ((nth rl k).2.2.2.2.2.1), .int .i64 ((nth rl k).2.2.2.2.2.2.1), .slice ((nth rl k).2.2.2.2.2.2.2.ao) ((nth rl k).2.2.2.2.2.2.2.l.length) ((nth rl k).2.2.2.2.2.2.2.cap)]) Try.underlying92 rfl rfl (fun _ => (RowIs.in_ hr k 0 15 (by omega) (by omega))) sz92) ?_
      refine SL.store 1 rfl rfl rfl rfl sz92 rfl rfl ?_
      refine SL.norm [_, _] rfl ?_
      refine SL.pure rfl rfl rfl (PureOp.assign rfl) ?_
      refine SL.nil_then ?_
      refine WC.ret ?_
      refine QX.ret_in ?_
      refine QX.ret_then ?_
      refine QX.ret_then ?_
      refine QX.ret_in ?_
      refine QX.ret_then ?_
      refine QX.retv rfl (RVs.cons (RV.cell rfl Try.underlying92 rfl (RowIs.cells 1 0 15 rfl rfl) sz92) (RVs.cons (RV.tmp rfl) RVs.nil)) ?_
      intro w hw
      rw [ruleE_drop (by omega), if_pos h2] at hs
      rw [← hs]; rfl
    · try simp only [Bool.and_eq_true, Bool.or_eq_true, Bool.not_eq_true', Bool.not_eq_false', Bool.and_eq_false_iff, Bool.or_eq_false_iff, decide_eq_true_eq, decide_eq_false_iff_not, Int.not_lt, Int.not_le, ne_eq, Decidable.not_not] at h2
      refine WC.skip ?_
      refine QX.normal_in ?_
      refine QX.then_ ?_
      refine WC.region ?_
      refine SL.pure rfl rfl rfl (PureOp.move rfl) ?_
      refine SL.pure rfl rfl rfl (PureOp.addN (k := 1) rfl rfl (fun _ => by omega)) ?_
      refine SL.pure rfl rfl rfl (PureOp.assign rfl) ?_
      refine SL.nil ?_
      refine QX.round 2 (k + 1) ⟨⟨(by first | omega | (dsimp only; omega)), by rw [ruleE_drop (by omega), if_neg h2] at hs; exact hs⟩, by first | omega | (dsimp only; omega)⟩ ⟨rfl, rfl, rfl, rfl, rfl, rfl, rfl, rfl, rfl, rfl, trivial⟩ rfl
  · try simp only [Bool.and_eq_true, Bool.or_eq_true, Bool.not_eq_true', Bool.not_eq_false', Bool.and_eq_false_iff, Bool.or_eq_false_iff, decide_eq_true_eq, decide_eq_false_iff_not, Int.not_lt, Int.not_le, ne_eq, Decidable.not_not] at h1
    refine WC.exit ?_
    refine QX.exit_then ?_
    refine QX.exit_then ?_
    refine QX.exit_hit ?_
    refine QX.then_ ?_
    refine WC.seq ?_
    refine WC.region ?_
    refine SL.pure rfl rfl rfl (PureOp.build bld92 rfl rfl) ?_
    refine SL.store 1 rfl rfl rfl rfl sz92 rfl rfl ?_
    refine SL.norm [_, _] rfl ?_
    refine SL.pure rfl rfl rfl (PureOp.assign rfl) ?_
    refine SL.nil_then ?_
    refine WC.ret ?_
    refine QX.retv rfl (RVs.cons (RV.cell rfl Try.underlying92 rfl (RowIs.cells 1 0 15 rfl rfl) sz92) (RVs.cons (RV.tmp rfl) RVs.nil)) ?_
    intro w hw
    rw [ruleE_end (by omega)] at hs
    rw [← hs]; rfl

end Go.Proofs.Ytipmdakhmpaemaa
