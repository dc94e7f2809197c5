import Derived.Test.YtblmafknmeicfaaMtD
namespace Go.Proofs.Ytblmafknmeicfaa
open Go Go.RowKit Eng
set_option linter.unusedVariables false
set_option linter.unusedSimpArgs false

set_option maxHeartbeats 4000000 in
set_option maxRecDepth 100000 in
theorem rrule_ok (u1 u2 : SliceV Unit) (fl : List Fa) (rl : List Ru) (rao : Option Addr) (rn rcap : Nat) (fao : Option Addr) (fn fcap : Nat) (hfn : fn = fl.length) (hrn : rn = rl.length) (w0 : World) (hf : SliceIn w0 9 fao fn fcap (rowsF enc52 fl)) (hr : SliceIn w0 15 rao rn rcap (rowsF enc76 rl)) (hfb : fn ≤ 1000) (hrb : rn ≤ 1000) (num : Int) : FnC Try.prog 47 [.agg #[.slice fao fn fcap, .slice rao rn rcap, .slice u1.ao u1.l.length u1.cap, .slice u2.ao u2.l.length u2.cap], .int .i64 num] w0 fun v w' => v = .tuple #[.agg (enc76 (ruleE rl num).1).toArray, .bool (ruleE rl num).2] := by
  refine fnc (N := 28) Try.func47 rfl rfl rfl ?_
  refine WC.seq ?_
  refine WC.region ?_
  refine SL.box rfl rfl rfl (fun b1 hb1 => ?_)
  refine SL.norm [_] rfl ?_
  refine SL.alloc rfl rfl zero76 (fun b2 hb2 => ?_)
  refine SL.norm [_, _] rfl ?_
  refine SL.pure rfl rfl rfl (PureOp.assign rfl) ?_
  refine SL.nil_then ?_
  refine WC.seq ?_
  refine WC.seq ?_
  refine WC.region ?_
  refine SL.pure rfl rfl rfl (PureOp.assign rfl) ?_
  refine SL.nil_then ?_
  refine WC.block ?_
  refine WC.loop (σ := Nat) (fun q_ => [(0, 0, .agg #[.slice fao fn fcap, .slice rao rn rcap, .slice u1.ao u1.l.length u1.cap, .slice u2.ao u2.l.length u2.cap]), (1, 0, .int .i64 num), (2, 0, .pointer (some ⟨b1, 0, none⟩)), (4, 0, .pointer (some ⟨b2, 0, none⟩)), (6, 0, .int .i64 ((q_ : Nat) : Int))]) (fun q_ => [Item.cells b1 [.slice fao fn fcap, .slice rao rn rcap, .slice u1.ao u1.l.length u1.cap, .slice u2.ao u2.l.length u2.cap] 27, Item.cells b2 [.int .i64 0, .int .i64 0, .slice none 0 0, .int .i64 0, .int .i64 0, .int .i64 0, .int .i64 0, .int .i64 0, .slice none 0 0, .slice none 0 0, .int .i64 0, .int .i64 0, .int .i64 0, .int .i64 0, .slice none 0 0] 76]) (fun q_ => q_ ≤ rn ∧ ruleE (rl.drop q_) num = ruleE rl num) (fun q_ => rn - q_) 2 (0) (⟨Nat.zero_le _, rfl⟩) ⟨rfl, rfl, rfl, rfl, rfl, rfl, rfl, rfl, rfl, rfl, trivial⟩ rfl ?_
  rintro k ⟨hk, hs⟩
  refine WC.seq ?_
  refine WC.seq ?_
  refine WC.region ?_
  refine SL.pure rfl rfl rfl (PureOp.move rfl) ?_
  refine SL.pure rfl rfl rfl (PureOp.fieldAddrT 1 Try.underlying27 rfl sz23 rfl rfl) ?_
  refine SL.pure rfl rfl rfl (PureOp.load (v := .slice rao rn rcap) Try.underlying23 rfl rfl (fun _ => (CellIs.cells 0 rfl rfl))) ?_
  refine SL.pure rfl rfl rfl (PureOp.len rfl Try.underlying23) ?_
  refine SL.pure rfl rfl rfl (PureOp.lss rfl rfl) ?_
  refine SL.nil_then ?_
  refine WC.cond rfl (fun h1 => ?_) (fun h1 => ?_)
  · try simp only [Bool.and_eq_true, Bool.or_eq_true, Bool.not_eq_true', Bool.not_eq_false', Bool.and_eq_false_iff, Bool.or_eq_false_iff, decide_eq_true_eq, decide_eq_false_iff_not, Int.not_lt, Int.not_le, ne_eq, Decidable.not_not] at h1
    refine WC.skip ?_
    refine QX.then_ ?_
    refine WC.seq ?_
    refine WC.block ?_
    refine WC.seq ?_
    refine WC.region ?_
    refine SL.pure rfl rfl rfl (PureOp.fieldAddrT 1 Try.underlying27 rfl sz23 rfl rfl) ?_
    refine SL.pure rfl rfl rfl (PureOp.load (v := .slice rao rn rcap) Try.underlying23 rfl rfl (fun _ => (CellIs.cells 0 rfl rfl))) ?_
    refine SL.pure rfl rfl rfl (PureOp.move rfl) ?_
    refine SL.pure rfl rfl rfl (PureOp.indexAddrN Try.underlying23 sz76 rfl rfl (AoOk.in_ hr) (fun _ => by omega)) ?_
    refine SL.pure rfl rfl rfl (PureOp.fieldAddr 0 Try.underlying76 rfl rfl sz3 rfl) ?_
    refine SL.pure rfl rfl rfl (PureOp.load (v := .int .i64 ((nth rl k).1)) Try.underlying3 rfl rfl (fun _ => (CellIs.in_ hr k 0 (by omega) (by omega)))) ?_
    refine SL.pure rfl rfl rfl (PureOp.move rfl) ?_
    refine SL.pure rfl rfl rfl (PureOp.eql rfl rfl) ?_
    refine SL.nil_then ?_
    refine WC.cond rfl (fun h2 => ?_) (fun h2 => ?_)
    · try simp only [Bool.and_eq_true, Bool.or_eq_true, Bool.not_eq_true', Bool.not_eq_false', Bool.and_eq_false_iff, Bool.or_eq_false_iff, decide_eq_true_eq, decide_eq_false_iff_not, Int.not_lt, Int.not_le, ne_eq, Decidable.not_not] at h2
      refine WC.seq ?_
      refine WC.region ?_
      refine SL.pure rfl rfl rfl (PureOp.fieldAddrT 1 Try.underlying27 rfl sz23 rfl rfl) ?_
      refine SL.pure rfl rfl rfl (PureOp.load (v := .slice rao rn rcap) Try.underlying23 rfl rfl (fun _ => (CellIs.cells 0 rfl rfl))) ?_
      refine SL.pure rfl rfl rfl (PureOp.move rfl) ?_
      refine SL.pure rfl rfl rfl (PureOp.indexAddrN Try.underlying23 sz76 rfl rfl (AoOk.in_ hr) (fun _ => by omega)) ?_
      refine SL.pure rfl rfl rfl (PureOp.loads (vs := [.int .i64 ((nth rl k).1), .int .i64 ((nth rl k).2.1.1), .slice ((nth rl k).2.1.2.1.ao) ((nth rl k).2.1.2.1.l.length) ((nth rl k).2.1.2.1.cap), .int .i64 ((nth rl k).2.1.2.2.1), .int .i64 ((nth rl k).2.1.2.2.2.1), .int .i64 ((nth rl k).2.1.2.2.2.2.1.1), .int .i64 ((nth rl k).2.1.2.2.2.2.1.2.1), .int .i64 ((nth rl k).2.1.2.2.2.2.1.2.2), .slice ((nth rl k).2.1.2.2.2.2.2.ao) ((nth rl k).2.1.2.2.2.2.2.l.length) ((nth rl k).2.1.2.2.2.2.2.cap), .slice ((nth rl k).2.2.1.ao) ((nth rl k).2.2.1.l.length) ((nth rl k).2.2.1.cap), .int .i64 ((nth rl k).2.2.2.1), .int .i64 ((nth rl k).2.2.2.2.1), .int .i64 ((nth rl k).2.2.2.2.2.1), .int .i64 ((nth rl k).2.2.2.2.2.2.1), .slice ((nth rl k).2.2.2.2.2.2.2.ao) ((nth rl k).2.2.2.2.2.2.2.l.length) ((nth rl k).2.2.2.2.2.2.2.cap)]) Try.underlying76 rfl rfl (fun _ => (RowIs.in_ hr k 0 15 (by omega) (by omega))) sz76) ?_
      refine SL.store 1 rfl rfl rfl rfl sz76 rfl rfl ?_
      refine SL.norm [_, _] rfl ?_
      refine SL.pure rfl rfl rfl (PureOp.assign rfl) ?_
      refine SL.nil_then ?_
      refine WC.ret ?_
      refine QX.ret_in ?_
      refine QX.ret_then ?_
      refine QX.ret_then ?_
      refine QX.ret_in ?_
      refine QX.ret_then ?_
      refine QX.retv rfl (RVs.cons (RV.cell rfl Try.underlying76 rfl (RowIs.cells 1 0 15 rfl rfl) sz76) (RVs.cons (RV.tmp rfl) RVs.nil)) ?_
      intro w hw
      rw [ruleE_drop (by omega), if_pos h2] at hs
      rw [← hs]; rfl
    · try simp only [Bool.and_eq_true, Bool.or_eq_true, Bool.not_eq_true', Bool.not_eq_false', Bool.and_eq_false_iff, Bool.or_eq_false_iff, decide_eq_true_eq, decide_eq_false_iff_not, Int.not_lt, Int.not_le, ne_eq, Decidable.not_not] at h2
      refine WC.skip ?_
      refine QX.normal_in ?_
      refine QX.then_ ?_
      refine WC.region ?_
      refine SL.pure rfl rfl rfl (PureOp.move rfl) ?_
      refine SL.pure rfl rfl rfl (PureOp.addN (k := 1) rfl rfl (fun _ => by omega)) ?_
      refine SL.pure rfl rfl rfl (PureOp.assign rfl) ?_
      refine SL.nil ?_
      refine QX.round 2 (k + 1) ⟨⟨(by first | omega | (dsimp only; omega)), by rw [ruleE_drop (by omega), if_neg h2] at hs; exact hs⟩, by first | omega | (dsimp only; omega)⟩ ⟨rfl, rfl, rfl, rfl, rfl, rfl, rfl, rfl, rfl, rfl, trivial⟩ rfl
  · try simp only [Bool.and_eq_true, Bool.or_eq_true, Bool.not_eq_true', Bool.not_eq_false', Bool.and_eq_false_iff, Bool.or_eq_false_iff, decide_eq_true_eq, decide_eq_false_iff_not, Int.not_lt, Int.not_le, ne_eq, Decidable.not_not] at h1
    refine WC.exit ?_
    refine QX.exit_then ?_
    refine QX.exit_then ?_
    refine QX.exit_hit ?_
    refine QX.then_ ?_
    refine WC.seq ?_
    refine WC.region ?_
    refine SL.pure rfl rfl rfl (PureOp.build bld76 rfl rfl) ?_
    refine SL.store 1 rfl rfl rfl rfl sz76 rfl rfl ?_
    refine SL.norm [_, _] rfl ?_
    refine SL.pure rfl rfl rfl (PureOp.assign rfl) ?_
    refine SL.nil_then ?_
    refine WC.ret ?_
    refine QX.retv rfl (RVs.cons (RV.cell rfl Try.underlying76 rfl (RowIs.cells 1 0 15 rfl rfl) sz76) (RVs.cons (RV.tmp rfl) RVs.nil)) ?_
    intro w hw
    rw [ruleE_end (by omega)] at hs
    rw [← hs]; rfl

set_option maxHeartbeats 4000000 in
set_option maxRecDepth 100000 in
theorem rrouting_any (u1 u2 : SliceV Unit) (fl : List Fa) (rl : List Ru) (rao : Option Addr) (rn rcap : Nat) (fao : Option Addr) (fn fcap : Nat) (hfn : fn = fl.length) (hrn : rn = rl.length) (w0 : World) (hf : SliceIn w0 9 fao fn fcap (rowsF enc52 fl)) (hr : SliceIn w0 15 rao rn rcap (rowsF enc76 rl)) (hfb : fn ≤ 1000) (hrb : rn ≤ 1000) (tl : List (Int × SliceV Lk × Int)) (htl : tl.length = u1.l.length) (sR : SliceIn w0 3 u1.ao u1.l.length u1.cap (rowsF enc99 tl)) (htb : u1.l.length ≤ 1000) (num : Int) : FnC Try.prog 63 [.agg #[.slice fao fn fcap, .slice rao rn rcap, .slice u1.ao u1.l.length u1.cap, .slice u2.ao u2.l.length u2.cap], .int .i64 num] w0 fun v w' => ∃ r b, v = .tuple #[r, .bool b] := by
  refine fnc (N := 28) Try.func63 rfl rfl rfl ?_
  refine WC.seq ?_
  refine WC.region ?_
  refine SL.box rfl rfl rfl (fun b1 hb1 => ?_)
  refine SL.norm [_] rfl ?_
  refine SL.alloc rfl rfl zero99 (fun b2 hb2 => ?_)
  refine SL.norm [_, _] rfl ?_
  refine SL.pure rfl rfl rfl (PureOp.assign rfl) ?_
  refine SL.nil_then ?_
  refine WC.seq ?_
  refine WC.seq ?_
  refine WC.region ?_
  refine SL.pure rfl rfl rfl (PureOp.assign rfl) ?_
  refine SL.nil_then ?_
  refine WC.block ?_
  refine WC.loop (σ := Nat) (fun q_ => [(0, 0, .agg #[.slice fao fn fcap, .slice rao rn rcap, .slice u1.ao u1.l.length u1.cap, .slice u2.ao u2.l.length u2.cap]), (1, 0, .int .i64 num), (2, 0, .pointer (some ⟨b1, 0, none⟩)), (4, 0, .pointer (some ⟨b2, 0, none⟩)), (6, 0, .int .i64 ((q_ : Nat) : Int))]) (fun q_ => [Item.cells b1 [.slice fao fn fcap, .slice rao rn rcap, .slice u1.ao u1.l.length u1.cap, .slice u2.ao u2.l.length u2.cap] 27, Item.cells b2 [.int .i64 0, .slice none 0 0, .int .i64 0] 99]) (fun q_ => q_ ≤ u1.l.length) (fun q_ => u1.l.length - q_) 2 (0) (Nat.zero_le _) ⟨rfl, rfl, rfl, rfl, rfl, rfl, rfl, rfl, rfl, rfl, trivial⟩ rfl ?_
  rintro k hk
  refine WC.seq ?_
  refine WC.seq ?_
  refine WC.region ?_
  refine SL.pure rfl rfl rfl (PureOp.move rfl) ?_
  refine SL.pure rfl rfl rfl (PureOp.fieldAddrT 2 Try.underlying27 rfl sz24 rfl rfl) ?_
  refine SL.pure rfl rfl rfl (PureOp.load (v := .slice u1.ao u1.l.length u1.cap) Try.underlying24 rfl rfl (fun _ => (CellIs.cells 0 rfl rfl))) ?_
  refine SL.pure rfl rfl rfl (PureOp.len rfl Try.underlying24) ?_
  refine SL.pure rfl rfl rfl (PureOp.lss rfl rfl) ?_
  refine SL.nil_then ?_
  refine WC.cond rfl (fun h1 => ?_) (fun h1 => ?_)
  · try simp only [Bool.and_eq_true, Bool.or_eq_true, Bool.not_eq_true', Bool.not_eq_false', Bool.and_eq_false_iff, Bool.or_eq_false_iff, decide_eq_true_eq, decide_eq_false_iff_not, Int.not_lt, Int.not_le, ne_eq, Decidable.not_not] at h1
    refine WC.skip ?_
    refine QX.then_ ?_
    refine WC.seq ?_
    refine WC.block ?_
    refine WC.seq ?_
    refine WC.region ?_
    refine SL.pure rfl rfl rfl (PureOp.fieldAddrT 2 Try.underlying27 rfl sz24 rfl rfl) ?_
    refine SL.pure rfl rfl rfl (PureOp.load (v := .slice u1.ao u1.l.length u1.cap) Try.underlying24 rfl rfl (fun _ => (CellIs.cells 0 rfl rfl))) ?_
    refine SL.pure rfl rfl rfl (PureOp.move rfl) ?_
    refine SL.pure rfl rfl rfl (PureOp.indexAddrN Try.underlying24 sz99 rfl rfl (AoOk.in_ sR) (fun _ => by omega)) ?_
    refine SL.pure rfl rfl rfl (PureOp.fieldAddr 0 Try.underlying99 rfl rfl sz3 rfl) ?_
    refine SL.pure rfl rfl rfl (PureOp.load (v := .int .i64 ((nth tl k).1)) Try.underlying3 rfl rfl (fun _ => (CellIs.in_ sR k 0 (by omega) (by omega)))) ?_
    refine SL.pure rfl rfl rfl (PureOp.move rfl) ?_
    refine SL.pure rfl rfl rfl (PureOp.eql rfl rfl) ?_
    refine SL.nil_then ?_
    refine WC.cond rfl (fun h2 => ?_) (fun h2 => ?_)
    · try simp only [Bool.and_eq_true, Bool.or_eq_true, Bool.not_eq_true', Bool.not_eq_false', Bool.and_eq_false_iff, Bool.or_eq_false_iff, decide_eq_true_eq, decide_eq_false_iff_not, Int.not_lt, Int.not_le, ne_eq, Decidable.not_not] at h2
      refine WC.seq ?_
      refine WC.region ?_
      refine SL.pure rfl rfl rfl (PureOp.fieldAddrT 2 Try.underlying27 rfl sz24 rfl rfl) ?_
      refine SL.pure rfl rfl rfl (PureOp.load (v := .slice u1.ao u1.l.length u1.cap) Try.underlying24 rfl rfl (fun _ => (CellIs.cells 0 rfl rfl))) ?_
      refine SL.pure rfl rfl rfl (PureOp.move rfl) ?_
      refine SL.pure rfl rfl rfl (PureOp.indexAddrN Try.underlying24 sz99 rfl rfl (AoOk.in_ sR) (fun _ => by omega)) ?_
      refine SL.pure rfl rfl rfl (PureOp.loads (vs := [.int .i64 ((nth tl k).1), .slice ((nth tl k).2.1.ao) ((nth tl k).2.1.l.length) ((nth tl k).2.1.cap), .int .i64 ((nth tl k).2.2)]) Try.underlying99 rfl rfl (fun _ => (RowIs.in_ sR k 0 3 (by omega) (by omega))) sz99) ?_
      refine SL.store 1 rfl rfl rfl rfl sz99 rfl rfl ?_
      refine SL.norm [_, _] rfl ?_
      refine SL.pure rfl rfl rfl (PureOp.assign rfl) ?_
      refine SL.nil_then ?_
      refine WC.ret ?_
      refine QX.ret_in ?_
      refine QX.ret_then ?_
      refine QX.ret_then ?_
      refine QX.ret_in ?_
      refine QX.ret_then ?_
      refine QX.retv rfl (RVs.cons (RV.cell rfl Try.underlying99 rfl (RowIs.cells 1 0 3 rfl rfl) sz99) (RVs.cons (RV.tmp rfl) RVs.nil)) ?_
      intro w hw
      exact ⟨_, _, rfl⟩
    · try simp only [Bool.and_eq_true, Bool.or_eq_true, Bool.not_eq_true', Bool.not_eq_false', Bool.and_eq_false_iff, Bool.or_eq_false_iff, decide_eq_true_eq, decide_eq_false_iff_not, Int.not_lt, Int.not_le, ne_eq, Decidable.not_not] at h2
      refine WC.skip ?_
      refine QX.normal_in ?_
      refine QX.then_ ?_
      refine WC.region ?_
      refine SL.pure rfl rfl rfl (PureOp.move rfl) ?_
      refine SL.pure rfl rfl rfl (PureOp.addN (k := 1) rfl rfl (fun _ => by omega)) ?_
      refine SL.pure rfl rfl rfl (PureOp.assign rfl) ?_
      refine SL.nil ?_
      refine QX.round 2 (k + 1) ⟨(by first | omega | (dsimp only; omega)), by first | omega | (dsimp only; omega)⟩ ⟨rfl, rfl, rfl, rfl, rfl, rfl, rfl, rfl, rfl, rfl, trivial⟩ rfl
  · try simp only [Bool.and_eq_true, Bool.or_eq_true, Bool.not_eq_true', Bool.not_eq_false', Bool.and_eq_false_iff, Bool.or_eq_false_iff, decide_eq_true_eq, decide_eq_false_iff_not, Int.not_lt, Int.not_le, ne_eq, Decidable.not_not] at h1
    refine WC.exit ?_
    refine QX.exit_then ?_
    refine QX.exit_then ?_
    refine QX.exit_hit ?_
    refine QX.then_ ?_
    refine WC.seq ?_
    refine WC.region ?_
    refine SL.pure rfl rfl rfl (PureOp.build bld99 rfl rfl) ?_
    refine SL.store 1 rfl rfl rfl rfl sz99 rfl rfl ?_
    refine SL.norm [_, _] rfl ?_
    refine SL.pure rfl rfl rfl (PureOp.assign rfl) ?_
    refine SL.nil_then ?_
    refine WC.ret ?_
    refine QX.retv rfl (RVs.cons (RV.cell rfl Try.underlying99 rfl (RowIs.cells 1 0 3 rfl rfl) sz99) (RVs.cons (RV.tmp rfl) RVs.nil)) ?_
    intro w hw
    exact ⟨_, _, rfl⟩

set_option maxHeartbeats 4000000 in
set_option maxRecDepth 100000 in
theorem rknown_ok (u3 : SliceV Unit) (al : List Ai) (aao : Option Addr) (an acap : Nat) (han : an = al.length) (w0 : World) (sA : SliceIn w0 5 aao an acap (rowsF enc88 al)) (hab : an ≤ 1000) (cd : ByteArray) : FnC Try.prog 61 [.agg #[.slice aao an acap, .slice u3.ao u3.l.length u3.cap], .string cd] w0 fun v w' => v = .bool (knB al an cd) := by
  refine fnc (N := 21) Try.func61 rfl rfl rfl ?_
  refine WC.seq ?_
  refine WC.region ?_
  refine SL.box rfl rfl rfl (fun b1 hb1 => ?_)
  refine SL.norm [_] rfl ?_
  refine SL.pure rfl rfl rfl (PureOp.assign rfl) ?_
  refine SL.nil_then ?_
  refine WC.seq ?_
  refine WC.seq ?_
  refine WC.region ?_
  refine SL.pure rfl rfl rfl (PureOp.assign rfl) ?_
  refine SL.nil_then ?_
  refine WC.block ?_
  refine WC.loop (σ := Nat) (fun q_ => [(0, 0, .agg #[.slice aao an acap, .slice u3.ao u3.l.length u3.cap]), (1, 0, .string cd), (2, 0, .pointer (some ⟨b1, 0, none⟩)), (5, 0, .int .i64 ((q_ : Nat) : Int))]) (fun q_ => [Item.cells b1 [.slice aao an acap, .slice u3.ao u3.l.length u3.cap] 39]) (fun q_ => q_ ≤ an ∧ allK (fun j => !((nth al j).2.1.toList == cd.toList)) q_ = true) (fun q_ => an - q_) 1 (0) (⟨Nat.zero_le _, rfl⟩) ⟨rfl, rfl, rfl, rfl, rfl, rfl, rfl, rfl, trivial⟩ rfl ?_
  rintro k ⟨hk, hz⟩
  refine WC.seq ?_
  refine WC.seq ?_
  refine WC.region ?_
  refine SL.pure rfl rfl rfl (PureOp.move rfl) ?_
  refine SL.pure rfl rfl rfl (PureOp.fieldAddrT 0 Try.underlying39 rfl sz36 rfl rfl) ?_
  refine SL.pure rfl rfl rfl (PureOp.load (v := .slice aao an acap) Try.underlying36 rfl rfl (fun _ => (CellIs.cells 0 rfl rfl))) ?_
  refine SL.pure rfl rfl rfl (PureOp.len rfl Try.underlying36) ?_
  refine SL.pure rfl rfl rfl (PureOp.lss rfl rfl) ?_
  refine SL.nil_then ?_
  refine WC.cond rfl (fun h1 => ?_) (fun h1 => ?_)
  · try simp only [Bool.and_eq_true, Bool.or_eq_true, Bool.not_eq_true', Bool.not_eq_false', Bool.and_eq_false_iff, Bool.or_eq_false_iff, decide_eq_true_eq, decide_eq_false_iff_not, Int.not_lt, Int.not_le, ne_eq, Decidable.not_not] at h1
    refine WC.skip ?_
    refine QX.then_ ?_
    refine WC.seq ?_
    refine WC.block ?_
    refine WC.seq ?_
    refine WC.region ?_
    refine SL.pure rfl rfl rfl (PureOp.fieldAddrT 0 Try.underlying39 rfl sz36 rfl rfl) ?_
    refine SL.pure rfl rfl rfl (PureOp.load (v := .slice aao an acap) Try.underlying36 rfl rfl (fun _ => (CellIs.cells 0 rfl rfl))) ?_
    refine SL.pure rfl rfl rfl (PureOp.move rfl) ?_
    refine SL.pure rfl rfl rfl (PureOp.indexAddrN Try.underlying36 sz88 rfl rfl (AoOk.in_ sA) (fun _ => by omega)) ?_
    refine SL.pure rfl rfl rfl (PureOp.fieldAddr 1 Try.underlying88 rfl rfl sz9 rfl) ?_
    refine SL.pure rfl rfl rfl (PureOp.load (v := .string ((nth al k).2.1)) Try.underlying9 rfl rfl (fun _ => (CellIs.in_ sA k 1 (by omega) (by omega)))) ?_
    refine SL.pure rfl rfl rfl (PureOp.move rfl) ?_
    refine SL.pure rfl rfl rfl (PureOp.eqls rfl rfl) ?_
    refine SL.nil_then ?_
    refine WC.cond rfl (fun h2 => ?_) (fun h2 => ?_)
    · try simp only [Bool.and_eq_true, Bool.or_eq_true, Bool.not_eq_true', Bool.not_eq_false', Bool.and_eq_false_iff, Bool.or_eq_false_iff, decide_eq_true_eq, decide_eq_false_iff_not, Int.not_lt, Int.not_le, ne_eq, Decidable.not_not] at h2
      refine WC.seq ?_
      refine WC.region ?_
      refine SL.pure rfl rfl rfl (PureOp.assign rfl) ?_
      refine SL.nil_then ?_
      refine WC.ret ?_
      refine QX.ret_in ?_
      refine QX.ret_then ?_
      refine QX.ret_then ?_
      refine QX.ret_in ?_
      refine QX.ret_then ?_
      refine QX.ret1 rfl rfl ?_
      intro w hw
      rw [knB, allK_not (k := k) (by omega) (by simpa using h2)]; rfl
    · try simp only [Bool.and_eq_true, Bool.or_eq_true, Bool.not_eq_true', Bool.not_eq_false', Bool.and_eq_false_iff, Bool.or_eq_false_iff, decide_eq_true_eq, decide_eq_false_iff_not, Int.not_lt, Int.not_le, ne_eq, Decidable.not_not] at h2
      refine WC.skip ?_
      refine QX.normal_in ?_
      refine QX.then_ ?_
      refine WC.region ?_
      refine SL.pure rfl rfl rfl (PureOp.move rfl) ?_
      refine SL.pure rfl rfl rfl (PureOp.addN (k := 1) rfl rfl (fun _ => by omega)) ?_
      refine SL.pure rfl rfl rfl (PureOp.assign rfl) ?_
      refine SL.nil ?_
      refine QX.round 1 (k + 1) ⟨⟨(by first | omega | (dsimp only; omega)), allK_next hz (by simpa using h2)⟩, by first | omega | (dsimp only; omega)⟩ ⟨rfl, rfl, rfl, rfl, rfl, rfl, rfl, rfl, trivial⟩ rfl
  · try simp only [Bool.and_eq_true, Bool.or_eq_true, Bool.not_eq_true', Bool.not_eq_false', Bool.and_eq_false_iff, Bool.or_eq_false_iff, decide_eq_true_eq, decide_eq_false_iff_not, Int.not_lt, Int.not_le, ne_eq, Decidable.not_not] at h1
    refine WC.exit ?_
    refine QX.exit_then ?_
    refine QX.exit_then ?_
    refine QX.exit_hit ?_
    refine QX.then_ ?_
    refine WC.seq ?_
    refine WC.region ?_
    refine SL.pure rfl rfl rfl (PureOp.assign rfl) ?_
    refine SL.nil_then ?_
    refine WC.ret ?_
    refine QX.ret1 rfl rfl ?_
    intro w hw
    rw [knB, show an = k from by omega, hz]; rfl

set_option maxHeartbeats 4000000 in
set_option maxRecDepth 100000 in
theorem fare_any (w0 : World) (u3 : SliceV Unit) (al : List Ai) (aao : Option Addr) (an acap : Nat) (han : an = al.length) (sA : SliceIn w0 5 aao an acap (rowsF enc88 al)) (hab : an ≤ 1000) (u1 u2 : SliceV Unit) (fl : List Fa) (rl : List Ru) (rao : Option Addr) (rn rcap : Nat) (fao : Option Addr) (fn fcap : Nat) (hfn : fn = fl.length) (hrn : rn = rl.length) (hf : SliceIn w0 9 fao fn fcap (rowsF enc52 fl)) (hr : SliceIn w0 15 rao rn rcap (rowsF enc76 rl)) (hfb : fn ≤ 1000) (hrb : rn ≤ 1000) (tl : List (Int × SliceV Lk × Int)) (htl : tl.length = u1.l.length) (sR : SliceIn w0 3 u1.ao u1.l.length u1.cap (rowsF enc99 tl)) (htb : u1.l.length ≤ 1000) (f : Fa) (hf1 : f.1.size ≤ 9223372036854775807) (hf4 : f.2.2.2.1.size ≤ 9223372036854775807) (hf5 : f.2.2.2.2.1.size ≤ 9223372036854775807) : FnC Try.prog 39 [.agg #[.slice aao an acap, .slice u3.ao u3.l.length u3.cap], .agg #[.slice fao fn fcap, .slice rao rn rcap, .slice u1.ao u1.l.length u1.cap, .slice u2.ao u2.l.length u2.cap], .agg #[.string f.1, .string f.2.1, .string f.2.2.1, .string f.2.2.2.1, .string f.2.2.2.2.1, .bool f.2.2.2.2.2.1, .int .i64 f.2.2.2.2.2.2.1, .int .i64 f.2.2.2.2.2.2.2.1, .int .i64 f.2.2.2.2.2.2.2.2]] w0 fun v w' => ∃ a cp n L, v = .slice a n cp ∧ LnB L n 6 ∧ w'.ownsRow w0.heap.size 31 1 (.slice a n cp) n (cellsOf encI L) := by
  refine fnc (N := 93) Try.func39 rfl rfl rfl ?_
  refine WC.seq ?_
  refine WC.region ?_
  refine SL.box rfl rfl rfl (fun b1 hb1 => ?_)
  refine SL.norm [_] rfl ?_
  refine SL.box rfl rfl rfl (fun b2 hb2 => ?_)
  refine SL.norm [_, _] rfl ?_
  refine SL.box rfl rfl rfl (fun b3 hb3 => ?_)
  refine SL.norm [_, _, _] rfl ?_
  refine SL.pure rfl rfl rfl (PureOp.assign rfl) ?_
  refine SL.nil_then ?_
  refine WC.seq ?_
  refine WC.region ?_
  refine SL.addnil 31 1 ?_
  refine SL.pure rfl rfl rfl (PureOp.assign rfl) ?_
  refine SL.nil_then ?_
  refine WC.cutx (σ := Option Addr × Nat × Nat × List Int) (fun q_ => [(0, 0, .agg #[.slice aao an acap, .slice u3.ao u3.l.length u3.cap]), (1, 0, .agg #[.slice fao fn fcap, .slice rao rn rcap, .slice u1.ao u1.l.length u1.cap, .slice u2.ao u2.l.length u2.cap]), (2, 0, .agg #[.string f.1, .string f.2.1, .string f.2.2.1, .string f.2.2.2.1, .string f.2.2.2.2.1, .bool f.2.2.2.2.2.1, .int .i64 f.2.2.2.2.2.2.1, .int .i64 f.2.2.2.2.2.2.2.1, .int .i64 f.2.2.2.2.2.2.2.2]), (3, 0, .pointer (some ⟨b1, 0, none⟩)), (4, 0, .pointer (some ⟨b2, 0, none⟩)), (5, 0, .pointer (some ⟨b3, 0, none⟩)), (6, 0, .slice none 0 0), (7, 0, .slice q_.1 q_.2.2.1 q_.2.1)]) (fun q_ => [Item.cells b1 [.slice aao an acap, .slice u3.ao u3.l.length u3.cap] 39, Item.cells b2 [.slice fao fn fcap, .slice rao rn rcap, .slice u1.ao u1.l.length u1.cap, .slice u2.ao u2.l.length u2.cap] 27, Item.cells b3 [.string f.1, .string f.2.1, .string f.2.2.1, .string f.2.2.2.1, .string f.2.2.2.2.1, .bool f.2.2.2.2.2.1, .int .i64 f.2.2.2.2.2.2.1, .int .i64 f.2.2.2.2.2.2.2.1, .int .i64 f.2.2.2.2.2.2.2.2] 52, Item.own w0.heap.size q_.1 q_.2.2.1 q_.2.1 31 1 (cellsOf encI (q_.2.2.2))]) (fun q_ => LnB q_.2.2.2 q_.2.2.1 1) ?_ ?_
  · skip
    refine WC.seq ?_
    refine WC.region ?_
    refine SL.pure rfl rfl rfl (PureOp.fieldAddrT 0 Try.underlying52 rfl sz9 rfl rfl) ?_
    refine SL.pure rfl rfl rfl (PureOp.load (v := .string f.1) Try.underlying9 rfl rfl (fun _ => (CellIs.cells 2 rfl rfl))) ?_
    refine SL.calle rfl rfl rfl rfl rfl rfl callable59 (fun w hw => carrier_ok f.1 (by omega) w) ?_
    refine SL.norm [_, _, _, _] rfl ?_
    refine SL.pure rfl rfl rfl (PureOp.not rfl) ?_
    refine SL.pure rfl rfl rfl (PureOp.move rfl) ?_
    refine SL.newg 14 false rfl ?_
    refine SL.gpure (c := 1) rfl rfl rfl rfl rfl rfl rfl (PureOp.fieldAddrT 3 Try.underlying52 rfl sz9 rfl rfl) ?_
    refine SL.gpure (c := 1) rfl rfl rfl rfl rfl rfl rfl (PureOp.load (v := .string f.2.2.2.1) Try.underlying9 rfl rfl (fun _ => (CellIs.cells 2 rfl rfl))) ?_
    refine SL.gcalle (c := 1) rfl rfl rfl rfl rfl rfl rfl rfl rfl rfl callable60 (by intro hg; simp [gval] at hg; exact (fun w hw => code_ok f.2.2.2.1 (by omega) 1 8 w)) ?_
    refine SL.norm [_, _, _, _] rfl ?_
    refine SL.gpure (c := 1) rfl rfl rfl rfl rfl rfl rfl (PureOp.not rfl) ?_
    refine SL.pure rfl rfl rfl (PureOp.or_ rfl rfl rfl rfl) ?_
    refine SL.nil_then ?_
    refine WC.cond rfl (fun h1 => ?_) (fun h1 => ?_)
    · try simp only [Bool.and_eq_true, Bool.or_eq_true, Bool.not_eq_true', Bool.not_eq_false', Bool.and_eq_false_iff, Bool.or_eq_false_iff, decide_eq_true_eq, decide_eq_false_iff_not, Int.not_lt, Int.not_le, ne_eq, Decidable.not_not] at h1
      refine WC.region ?_
      refine SL.pure rfl rfl rfl (PureOp.move rfl) ?_
      refine SL.buildSlice rfl rfl Try.underlying89 elem31 rfl rfl rfl rfl (fun b4 hb4 => ?_)
      refine SL.norm [_, _, _, _, _] rfl ?_
      refine SL.append 3 rfl rfl Try.underlying89 elem31 rfl rfl rfl rfl (SrcIs.own 4 rfl) (by rfl) (by omega) (by omega) (fun ao1_ cap1_ => ?_)
      refine SL.itemxs 3 rfl (show _ = cellsOf encI ([] ++ [(5 : Int)]) from by rw [cellsOf_append (l := ([])), cellsOf_one]; rfl) ?_
      refine SL.norm [_, _, _, _, _] rfl ?_
      refine SL.pure rfl rfl rfl (PureOp.assign rfl) ?_
      refine SL.nil ?_
      refine QX.cutx (σ := Option Addr × Nat × Nat × List Int) (E' := fun q_ => [(0, 0, .agg #[.slice aao an acap, .slice u3.ao u3.l.length u3.cap]), (1, 0, .agg #[.slice fao fn fcap, .slice rao rn rcap, .slice u1.ao u1.l.length u1.cap, .slice u2.ao u2.l.length u2.cap]), (2, 0, .agg #[.string f.1, .string f.2.1, .string f.2.2.1, .string f.2.2.2.1, .string f.2.2.2.2.1, .bool f.2.2.2.2.2.1, .int .i64 f.2.2.2.2.2.2.1, .int .i64 f.2.2.2.2.2.2.2.1, .int .i64 f.2.2.2.2.2.2.2.2]), (3, 0, .pointer (some ⟨b1, 0, none⟩)), (4, 0, .pointer (some ⟨b2, 0, none⟩)), (5, 0, .pointer (some ⟨b3, 0, none⟩)), (6, 0, .slice none 0 0), (7, 0, .slice q_.1 q_.2.2.1 q_.2.1)]) (H' := fun q_ => [Item.cells b1 [.slice aao an acap, .slice u3.ao u3.l.length u3.cap] 39, Item.cells b2 [.slice fao fn fcap, .slice rao rn rcap, .slice u1.ao u1.l.length u1.cap, .slice u2.ao u2.l.length u2.cap] 27, Item.cells b3 [.string f.1, .string f.2.1, .string f.2.2.1, .string f.2.2.2.1, .string f.2.2.2.2.1, .bool f.2.2.2.2.2.1, .int .i64 f.2.2.2.2.2.2.1, .int .i64 f.2.2.2.2.2.2.2.1, .int .i64 f.2.2.2.2.2.2.2.2] 52, Item.own w0.heap.size q_.1 q_.2.2.1 q_.2.1 31 1 (cellsOf encI (q_.2.2.2))]) (I := fun q_ => LnB q_.2.2.2 q_.2.2.1 1) 4 ((ao1_, cap1_, 0 + 1, [] ++ [(5 : Int)])) ((by first | exact LnB.nil.mono (by omega) | exact (LnB.nil.snoc).mono (by omega) | exact (LnB.nil.snoc.snoc).mono (by omega) | exact (LnB.nil.snoc.snoc.snoc).mono (by omega))) ⟨rfl, rfl, rfl, rfl, rfl, rfl, rfl, rfl, rfl, rfl, rfl, rfl, rfl, rfl, rfl, rfl, trivial⟩ rfl
    · try simp only [Bool.and_eq_true, Bool.or_eq_true, Bool.not_eq_true', Bool.not_eq_false', Bool.and_eq_false_iff, Bool.or_eq_false_iff, decide_eq_true_eq, decide_eq_false_iff_not, Int.not_lt, Int.not_le, ne_eq, Decidable.not_not] at h1
      refine WC.skip ?_
      refine QX.cutx (σ := Option Addr × Nat × Nat × List Int) (E' := fun q_ => [(0, 0, .agg #[.slice aao an acap, .slice u3.ao u3.l.length u3.cap]), (1, 0, .agg #[.slice fao fn fcap, .slice rao rn rcap, .slice u1.ao u1.l.length u1.cap, .slice u2.ao u2.l.length u2.cap]), (2, 0, .agg #[.string f.1, .string f.2.1, .string f.2.2.1, .string f.2.2.2.1, .string f.2.2.2.2.1, .bool f.2.2.2.2.2.1, .int .i64 f.2.2.2.2.2.2.1, .int .i64 f.2.2.2.2.2.2.2.1, .int .i64 f.2.2.2.2.2.2.2.2]), (3, 0, .pointer (some ⟨b1, 0, none⟩)), (4, 0, .pointer (some ⟨b2, 0, none⟩)), (5, 0, .pointer (some ⟨b3, 0, none⟩)), (6, 0, .slice none 0 0), (7, 0, .slice q_.1 q_.2.2.1 q_.2.1)]) (H' := fun q_ => [Item.cells b1 [.slice aao an acap, .slice u3.ao u3.l.length u3.cap] 39, Item.cells b2 [.slice fao fn fcap, .slice rao rn rcap, .slice u1.ao u1.l.length u1.cap, .slice u2.ao u2.l.length u2.cap] 27, Item.cells b3 [.string f.1, .string f.2.1, .string f.2.2.1, .string f.2.2.2.1, .string f.2.2.2.2.1, .bool f.2.2.2.2.2.1, .int .i64 f.2.2.2.2.2.2.1, .int .i64 f.2.2.2.2.2.2.2.1, .int .i64 f.2.2.2.2.2.2.2.2] 52, Item.own w0.heap.size q_.1 q_.2.2.1 q_.2.1 31 1 (cellsOf encI (q_.2.2.2))]) (I := fun q_ => LnB q_.2.2.2 q_.2.2.1 1) 4 ((none, 0, 0, [])) ((by first | exact LnB.nil.mono (by omega) | exact (LnB.nil.snoc).mono (by omega) | exact (LnB.nil.snoc.snoc).mono (by omega) | exact (LnB.nil.snoc.snoc.snoc).mono (by omega))) ⟨rfl, rfl, rfl, rfl, rfl, rfl, rfl, rfl, rfl, rfl, rfl, rfl, rfl, rfl, rfl, rfl, trivial⟩ rfl
  rintro ⟨a1_, c1_, n1_, L1_⟩ hF1
  try dsimp only at *
  have hFl1 := hF1.le
  refine WC.cutx (σ := Option Addr × Nat × Nat × List Int) (fun q_ => [(0, 0, .agg #[.slice aao an acap, .slice u3.ao u3.l.length u3.cap]), (1, 0, .agg #[.slice fao fn fcap, .slice rao rn rcap, .slice u1.ao u1.l.length u1.cap, .slice u2.ao u2.l.length u2.cap]), (2, 0, .agg #[.string f.1, .string f.2.1, .string f.2.2.1, .string f.2.2.2.1, .string f.2.2.2.2.1, .bool f.2.2.2.2.2.1, .int .i64 f.2.2.2.2.2.2.1, .int .i64 f.2.2.2.2.2.2.2.1, .int .i64 f.2.2.2.2.2.2.2.2]), (3, 0, .pointer (some ⟨b1, 0, none⟩)), (4, 0, .pointer (some ⟨b2, 0, none⟩)), (5, 0, .pointer (some ⟨b3, 0, none⟩)), (6, 0, .slice none 0 0), (7, 0, .slice q_.1 q_.2.2.1 q_.2.1)]) (fun q_ => [Item.cells b1 [.slice aao an acap, .slice u3.ao u3.l.length u3.cap] 39, Item.cells b2 [.slice fao fn fcap, .slice rao rn rcap, .slice u1.ao u1.l.length u1.cap, .slice u2.ao u2.l.length u2.cap] 27, Item.cells b3 [.string f.1, .string f.2.1, .string f.2.2.1, .string f.2.2.2.1, .string f.2.2.2.2.1, .bool f.2.2.2.2.2.1, .int .i64 f.2.2.2.2.2.2.1, .int .i64 f.2.2.2.2.2.2.2.1, .int .i64 f.2.2.2.2.2.2.2.2] 52, Item.own w0.heap.size q_.1 q_.2.2.1 q_.2.1 31 1 (cellsOf encI (q_.2.2.2))]) (fun q_ => LnB q_.2.2.2 q_.2.2.1 2) ?_ ?_
  · skip
    refine WC.seq ?_
    refine WC.region ?_
    refine SL.pure rfl rfl rfl (PureOp.loads (vs := [.slice aao an acap, .slice u3.ao u3.l.length u3.cap]) Try.underlying39 rfl rfl (fun _ => (RowIs.cells 0 0 2 rfl rfl)) sz39) ?_
    refine SL.pure rfl rfl rfl (PureOp.fieldAddrT 1 Try.underlying52 rfl sz9 rfl rfl) ?_
    refine SL.pure rfl rfl rfl (PureOp.load (v := .string f.2.1) Try.underlying9 rfl rfl (fun _ => (CellIs.cells 2 rfl rfl))) ?_
    refine SL.calle rfl rfl rfl rfl rfl rfl callable61 (fun w hw => rknown_ok u3 al aao an acap han w (sA.below hw.below) hab f.2.1) ?_
    refine SL.norm [_, _, _, _] rfl ?_
    refine SL.pure rfl rfl rfl (PureOp.not rfl) ?_
    refine SL.pure rfl rfl rfl (PureOp.move rfl) ?_
    refine SL.newg 28 false rfl ?_
    refine SL.gpure (c := 1) rfl rfl rfl rfl rfl rfl rfl (PureOp.loads (vs := [.slice aao an acap, .slice u3.ao u3.l.length u3.cap]) Try.underlying39 rfl rfl (fun _ => (RowIs.cells 0 0 2 rfl rfl)) sz39) ?_
    refine SL.gpure (c := 1) rfl rfl rfl rfl rfl rfl rfl (PureOp.fieldAddrT 2 Try.underlying52 rfl sz9 rfl rfl) ?_
    refine SL.gpure (c := 1) rfl rfl rfl rfl rfl rfl rfl (PureOp.load (v := .string f.2.2.1) Try.underlying9 rfl rfl (fun _ => (CellIs.cells 2 rfl rfl))) ?_
    refine SL.gcalle (c := 1) rfl rfl rfl rfl rfl rfl rfl rfl rfl rfl callable61 (by intro hg; simp [gval] at hg; exact (fun w hw => rknown_ok u3 al aao an acap han w (sA.below hw.below) hab f.2.2.1)) ?_
    refine SL.norm [_, _, _, _] rfl ?_
    refine SL.gpure (c := 1) rfl rfl rfl rfl rfl rfl rfl (PureOp.not rfl) ?_
    refine SL.pure rfl rfl rfl (PureOp.or_ rfl rfl rfl rfl) ?_
    refine SL.nil_then ?_
    refine WC.cond rfl (fun h2 => ?_) (fun h2 => ?_)
    · try simp only [Bool.and_eq_true, Bool.or_eq_true, Bool.not_eq_true', Bool.not_eq_false', Bool.and_eq_false_iff, Bool.or_eq_false_iff, decide_eq_true_eq, decide_eq_false_iff_not, Int.not_lt, Int.not_le, ne_eq, Decidable.not_not] at h2
      refine WC.region ?_
      refine SL.pure rfl rfl rfl (PureOp.move rfl) ?_
      refine SL.buildSlice rfl rfl Try.underlying89 elem31 rfl rfl rfl rfl (fun b5 hb5 => ?_)
      refine SL.norm [_, _, _, _, _] rfl ?_
      refine SL.append 3 rfl rfl Try.underlying89 elem31 rfl rfl rfl rfl (SrcIs.own 4 rfl) (by rfl) (by omega) (by omega) (fun ao2_ cap2_ => ?_)
      refine SL.itemxs 3 rfl (show _ = cellsOf encI (L1_ ++ [(14 : Int)]) from by rw [cellsOf_append (l := L1_), cellsOf_one]; rfl) ?_
      refine SL.norm [_, _, _, _, _] rfl ?_
      refine SL.pure rfl rfl rfl (PureOp.assign rfl) ?_
      refine SL.nil ?_
      refine QX.cutx (σ := Option Addr × Nat × Nat × List Int) (E' := fun q_ => [(0, 0, .agg #[.slice aao an acap, .slice u3.ao u3.l.length u3.cap]), (1, 0, .agg #[.slice fao fn fcap, .slice rao rn rcap, .slice u1.ao u1.l.length u1.cap, .slice u2.ao u2.l.length u2.cap]), (2, 0, .agg #[.string f.1, .string f.2.1, .string f.2.2.1, .string f.2.2.2.1, .string f.2.2.2.2.1, .bool f.2.2.2.2.2.1, .int .i64 f.2.2.2.2.2.2.1, .int .i64 f.2.2.2.2.2.2.2.1, .int .i64 f.2.2.2.2.2.2.2.2]), (3, 0, .pointer (some ⟨b1, 0, none⟩)), (4, 0, .pointer (some ⟨b2, 0, none⟩)), (5, 0, .pointer (some ⟨b3, 0, none⟩)), (6, 0, .slice none 0 0), (7, 0, .slice q_.1 q_.2.2.1 q_.2.1)]) (H' := fun q_ => [Item.cells b1 [.slice aao an acap, .slice u3.ao u3.l.length u3.cap] 39, Item.cells b2 [.slice fao fn fcap, .slice rao rn rcap, .slice u1.ao u1.l.length u1.cap, .slice u2.ao u2.l.length u2.cap] 27, Item.cells b3 [.string f.1, .string f.2.1, .string f.2.2.1, .string f.2.2.2.1, .string f.2.2.2.2.1, .bool f.2.2.2.2.2.1, .int .i64 f.2.2.2.2.2.2.1, .int .i64 f.2.2.2.2.2.2.2.1, .int .i64 f.2.2.2.2.2.2.2.2] 52, Item.own w0.heap.size q_.1 q_.2.2.1 q_.2.1 31 1 (cellsOf encI (q_.2.2.2))]) (I := fun q_ => LnB q_.2.2.2 q_.2.2.1 2) 4 ((ao2_, cap2_, n1_ + 1, L1_ ++ [(14 : Int)])) ((by first | exact hF1.mono (by omega) | exact (hF1.snoc).mono (by omega) | exact (hF1.snoc.snoc).mono (by omega) | exact (hF1.snoc.snoc.snoc).mono (by omega))) ⟨rfl, rfl, rfl, rfl, rfl, rfl, rfl, rfl, rfl, rfl, rfl, rfl, rfl, rfl, rfl, rfl, trivial⟩ rfl
    · try simp only [Bool.and_eq_true, Bool.or_eq_true, Bool.not_eq_true', Bool.not_eq_false', Bool.and_eq_false_iff, Bool.or_eq_false_iff, decide_eq_true_eq, decide_eq_false_iff_not, Int.not_lt, Int.not_le, ne_eq, Decidable.not_not] at h2
      refine WC.skip ?_
      refine QX.cutx (σ := Option Addr × Nat × Nat × List Int) (E' := fun q_ => [(0, 0, .agg #[.slice aao an acap, .slice u3.ao u3.l.length u3.cap]), (1, 0, .agg #[.slice fao fn fcap, .slice rao rn rcap, .slice u1.ao u1.l.length u1.cap, .slice u2.ao u2.l.length u2.cap]), (2, 0, .agg #[.string f.1, .string f.2.1, .string f.2.2.1, .string f.2.2.2.1, .string f.2.2.2.2.1, .bool f.2.2.2.2.2.1, .int .i64 f.2.2.2.2.2.2.1, .int .i64 f.2.2.2.2.2.2.2.1, .int .i64 f.2.2.2.2.2.2.2.2]), (3, 0, .pointer (some ⟨b1, 0, none⟩)), (4, 0, .pointer (some ⟨b2, 0, none⟩)), (5, 0, .pointer (some ⟨b3, 0, none⟩)), (6, 0, .slice none 0 0), (7, 0, .slice q_.1 q_.2.2.1 q_.2.1)]) (H' := fun q_ => [Item.cells b1 [.slice aao an acap, .slice u3.ao u3.l.length u3.cap] 39, Item.cells b2 [.slice fao fn fcap, .slice rao rn rcap, .slice u1.ao u1.l.length u1.cap, .slice u2.ao u2.l.length u2.cap] 27, Item.cells b3 [.string f.1, .string f.2.1, .string f.2.2.1, .string f.2.2.2.1, .string f.2.2.2.2.1, .bool f.2.2.2.2.2.1, .int .i64 f.2.2.2.2.2.2.1, .int .i64 f.2.2.2.2.2.2.2.1, .int .i64 f.2.2.2.2.2.2.2.2] 52, Item.own w0.heap.size q_.1 q_.2.2.1 q_.2.1 31 1 (cellsOf encI (q_.2.2.2))]) (I := fun q_ => LnB q_.2.2.2 q_.2.2.1 2) 4 ((a1_, c1_, n1_, L1_)) ((by first | exact hF1.mono (by omega) | exact (hF1.snoc).mono (by omega) | exact (hF1.snoc.snoc).mono (by omega) | exact (hF1.snoc.snoc.snoc).mono (by omega))) ⟨rfl, rfl, rfl, rfl, rfl, rfl, rfl, rfl, rfl, rfl, rfl, rfl, rfl, rfl, rfl, rfl, trivial⟩ rfl
  rintro ⟨a2_, c2_, n2_, L2_⟩ hF2
  try dsimp only at *
  have hFl2 := hF2.le
  refine WC.cutx (σ := Option Addr × Nat × Nat × List Int) (fun q_ => [(0, 0, .agg #[.slice aao an acap, .slice u3.ao u3.l.length u3.cap]), (1, 0, .agg #[.slice fao fn fcap, .slice rao rn rcap, .slice u1.ao u1.l.length u1.cap, .slice u2.ao u2.l.length u2.cap]), (2, 0, .agg #[.string f.1, .string f.2.1, .string f.2.2.1, .string f.2.2.2.1, .string f.2.2.2.2.1, .bool f.2.2.2.2.2.1, .int .i64 f.2.2.2.2.2.2.1, .int .i64 f.2.2.2.2.2.2.2.1, .int .i64 f.2.2.2.2.2.2.2.2]), (3, 0, .pointer (some ⟨b1, 0, none⟩)), (4, 0, .pointer (some ⟨b2, 0, none⟩)), (5, 0, .pointer (some ⟨b3, 0, none⟩)), (6, 0, .slice none 0 0), (7, 0, .slice q_.1 q_.2.2.1 q_.2.1)]) (fun q_ => [Item.cells b1 [.slice aao an acap, .slice u3.ao u3.l.length u3.cap] 39, Item.cells b2 [.slice fao fn fcap, .slice rao rn rcap, .slice u1.ao u1.l.length u1.cap, .slice u2.ao u2.l.length u2.cap] 27, Item.cells b3 [.string f.1, .string f.2.1, .string f.2.2.1, .string f.2.2.2.1, .string f.2.2.2.2.1, .bool f.2.2.2.2.2.1, .int .i64 f.2.2.2.2.2.2.1, .int .i64 f.2.2.2.2.2.2.2.1, .int .i64 f.2.2.2.2.2.2.2.2] 52, Item.own w0.heap.size q_.1 q_.2.2.1 q_.2.1 31 1 (cellsOf encI (q_.2.2.2))]) (fun q_ => LnB q_.2.2.2 q_.2.2.1 3) ?_ ?_
  · skip
    refine WC.seq ?_
    refine WC.region ?_
    refine SL.pure rfl rfl rfl (PureOp.fieldAddrT 1 Try.underlying52 rfl sz9 rfl rfl) ?_
    refine SL.pure rfl rfl rfl (PureOp.load (v := .string f.2.1) Try.underlying9 rfl rfl (fun _ => (CellIs.cells 2 rfl rfl))) ?_
    refine SL.pure rfl rfl rfl (PureOp.fieldAddrT 2 Try.underlying52 rfl sz9 rfl rfl) ?_
    refine SL.pure rfl rfl rfl (PureOp.load (v := .string f.2.2.1) Try.underlying9 rfl rfl (fun _ => (CellIs.cells 2 rfl rfl))) ?_
    refine SL.pure rfl rfl rfl (PureOp.eqls rfl rfl) ?_
    refine SL.pure rfl rfl rfl (PureOp.move rfl) ?_
    refine SL.newg 43 false rfl ?_
    refine SL.gpure (c := 1) rfl rfl rfl rfl rfl rfl rfl (PureOp.fieldAddrT 6 Try.underlying52 rfl sz3 rfl rfl) ?_
    refine SL.gpure (c := 1) rfl rfl rfl rfl rfl rfl rfl (PureOp.load (v := .int .i64 f.2.2.2.2.2.2.1) Try.underlying3 rfl rfl (fun _ => (CellIs.cells 2 rfl rfl))) ?_
    refine SL.gpure (c := 1) rfl rfl rfl rfl rfl rfl rfl (PureOp.lss rfl rfl) ?_
    refine SL.pure rfl rfl rfl (PureOp.or_ rfl rfl rfl rfl) ?_
    refine SL.pure rfl rfl rfl (PureOp.move rfl) ?_
    refine SL.newg 48 false rfl ?_
    refine SL.gpure (c := 2) rfl rfl rfl rfl rfl rfl rfl (PureOp.fieldAddrT 6 Try.underlying52 rfl sz3 rfl rfl) ?_
    refine SL.gpure (c := 2) rfl rfl rfl rfl rfl rfl rfl (PureOp.load (v := .int .i64 f.2.2.2.2.2.2.1) Try.underlying3 rfl rfl (fun _ => (CellIs.cells 2 rfl rfl))) ?_
    refine SL.gpure (c := 2) rfl rfl rfl rfl rfl rfl rfl (PureOp.gtr rfl rfl) ?_
    refine SL.pure rfl rfl rfl (PureOp.or_ rfl rfl rfl rfl) ?_
    refine SL.nil_then ?_
    refine WC.cond rfl (fun h3 => ?_) (fun h3 => ?_)
    · try simp only [Bool.and_eq_true, Bool.or_eq_true, Bool.not_eq_true', Bool.not_eq_false', Bool.and_eq_false_iff, Bool.or_eq_false_iff, decide_eq_true_eq, decide_eq_false_iff_not, Int.not_lt, Int.not_le, ne_eq, Decidable.not_not] at h3
      refine WC.region ?_
      refine SL.pure rfl rfl rfl (PureOp.move rfl) ?_
      refine SL.buildSlice rfl rfl Try.underlying89 elem31 rfl rfl rfl rfl (fun b6 hb6 => ?_)
      refine SL.norm [_, _, _, _, _] rfl ?_
      refine SL.append 3 rfl rfl Try.underlying89 elem31 rfl rfl rfl rfl (SrcIs.own 4 rfl) (by rfl) (by omega) (by omega) (fun ao3_ cap3_ => ?_)
      refine SL.itemxs 3 rfl (show _ = cellsOf encI (L2_ ++ [(2 : Int)]) from by rw [cellsOf_append (l := L2_), cellsOf_one]; rfl) ?_
      refine SL.norm [_, _, _, _, _] rfl ?_
      refine SL.pure rfl rfl rfl (PureOp.assign rfl) ?_
      refine SL.nil ?_
      refine QX.cutx (σ := Option Addr × Nat × Nat × List Int) (E' := fun q_ => [(0, 0, .agg #[.slice aao an acap, .slice u3.ao u3.l.length u3.cap]), (1, 0, .agg #[.slice fao fn fcap, .slice rao rn rcap, .slice u1.ao u1.l.length u1.cap, .slice u2.ao u2.l.length u2.cap]), (2, 0, .agg #[.string f.1, .string f.2.1, .string f.2.2.1, .string f.2.2.2.1, .string f.2.2.2.2.1, .bool f.2.2.2.2.2.1, .int .i64 f.2.2.2.2.2.2.1, .int .i64 f.2.2.2.2.2.2.2.1, .int .i64 f.2.2.2.2.2.2.2.2]), (3, 0, .pointer (some ⟨b1, 0, none⟩)), (4, 0, .pointer (some ⟨b2, 0, none⟩)), (5, 0, .pointer (some ⟨b3, 0, none⟩)), (6, 0, .slice none 0 0), (7, 0, .slice q_.1 q_.2.2.1 q_.2.1)]) (H' := fun q_ => [Item.cells b1 [.slice aao an acap, .slice u3.ao u3.l.length u3.cap] 39, Item.cells b2 [.slice fao fn fcap, .slice rao rn rcap, .slice u1.ao u1.l.length u1.cap, .slice u2.ao u2.l.length u2.cap] 27, Item.cells b3 [.string f.1, .string f.2.1, .string f.2.2.1, .string f.2.2.2.1, .string f.2.2.2.2.1, .bool f.2.2.2.2.2.1, .int .i64 f.2.2.2.2.2.2.1, .int .i64 f.2.2.2.2.2.2.2.1, .int .i64 f.2.2.2.2.2.2.2.2] 52, Item.own w0.heap.size q_.1 q_.2.2.1 q_.2.1 31 1 (cellsOf encI (q_.2.2.2))]) (I := fun q_ => LnB q_.2.2.2 q_.2.2.1 3) 4 ((ao3_, cap3_, n2_ + 1, L2_ ++ [(2 : Int)])) ((by first | exact hF2.mono (by omega) | exact (hF2.snoc).mono (by omega) | exact (hF2.snoc.snoc).mono (by omega) | exact (hF2.snoc.snoc.snoc).mono (by omega))) ⟨rfl, rfl, rfl, rfl, rfl, rfl, rfl, rfl, rfl, rfl, rfl, rfl, rfl, rfl, rfl, rfl, trivial⟩ rfl
    · try simp only [Bool.and_eq_true, Bool.or_eq_true, Bool.not_eq_true', Bool.not_eq_false', Bool.and_eq_false_iff, Bool.or_eq_false_iff, decide_eq_true_eq, decide_eq_false_iff_not, Int.not_lt, Int.not_le, ne_eq, Decidable.not_not] at h3
      refine WC.skip ?_
      refine QX.cutx (σ := Option Addr × Nat × Nat × List Int) (E' := fun q_ => [(0, 0, .agg #[.slice aao an acap, .slice u3.ao u3.l.length u3.cap]), (1, 0, .agg #[.slice fao fn fcap, .slice rao rn rcap, .slice u1.ao u1.l.length u1.cap, .slice u2.ao u2.l.length u2.cap]), (2, 0, .agg #[.string f.1, .string f.2.1, .string f.2.2.1, .string f.2.2.2.1, .string f.2.2.2.2.1, .bool f.2.2.2.2.2.1, .int .i64 f.2.2.2.2.2.2.1, .int .i64 f.2.2.2.2.2.2.2.1, .int .i64 f.2.2.2.2.2.2.2.2]), (3, 0, .pointer (some ⟨b1, 0, none⟩)), (4, 0, .pointer (some ⟨b2, 0, none⟩)), (5, 0, .pointer (some ⟨b3, 0, none⟩)), (6, 0, .slice none 0 0), (7, 0, .slice q_.1 q_.2.2.1 q_.2.1)]) (H' := fun q_ => [Item.cells b1 [.slice aao an acap, .slice u3.ao u3.l.length u3.cap] 39, Item.cells b2 [.slice fao fn fcap, .slice rao rn rcap, .slice u1.ao u1.l.length u1.cap, .slice u2.ao u2.l.length u2.cap] 27, Item.cells b3 [.string f.1, .string f.2.1, .string f.2.2.1, .string f.2.2.2.1, .string f.2.2.2.2.1, .bool f.2.2.2.2.2.1, .int .i64 f.2.2.2.2.2.2.1, .int .i64 f.2.2.2.2.2.2.2.1, .int .i64 f.2.2.2.2.2.2.2.2] 52, Item.own w0.heap.size q_.1 q_.2.2.1 q_.2.1 31 1 (cellsOf encI (q_.2.2.2))]) (I := fun q_ => LnB q_.2.2.2 q_.2.2.1 3) 4 ((a2_, c2_, n2_, L2_)) ((by first | exact hF2.mono (by omega) | exact (hF2.snoc).mono (by omega) | exact (hF2.snoc.snoc).mono (by omega) | exact (hF2.snoc.snoc.snoc).mono (by omega))) ⟨rfl, rfl, rfl, rfl, rfl, rfl, rfl, rfl, rfl, rfl, rfl, rfl, rfl, rfl, rfl, rfl, trivial⟩ rfl
  rintro ⟨a3_, c3_, n3_, L3_⟩ hF3
  try dsimp only at *
  have hFl3 := hF3.le
  refine WC.cutx (σ := Option Addr × Nat × Nat × List Int) (fun q_ => [(0, 0, .agg #[.slice aao an acap, .slice u3.ao u3.l.length u3.cap]), (1, 0, .agg #[.slice fao fn fcap, .slice rao rn rcap, .slice u1.ao u1.l.length u1.cap, .slice u2.ao u2.l.length u2.cap]), (2, 0, .agg #[.string f.1, .string f.2.1, .string f.2.2.1, .string f.2.2.2.1, .string f.2.2.2.2.1, .bool f.2.2.2.2.2.1, .int .i64 f.2.2.2.2.2.2.1, .int .i64 f.2.2.2.2.2.2.2.1, .int .i64 f.2.2.2.2.2.2.2.2]), (3, 0, .pointer (some ⟨b1, 0, none⟩)), (4, 0, .pointer (some ⟨b2, 0, none⟩)), (5, 0, .pointer (some ⟨b3, 0, none⟩)), (6, 0, .slice none 0 0), (7, 0, .slice q_.1 q_.2.2.1 q_.2.1)]) (fun q_ => [Item.cells b1 [.slice aao an acap, .slice u3.ao u3.l.length u3.cap] 39, Item.cells b2 [.slice fao fn fcap, .slice rao rn rcap, .slice u1.ao u1.l.length u1.cap, .slice u2.ao u2.l.length u2.cap] 27, Item.cells b3 [.string f.1, .string f.2.1, .string f.2.2.1, .string f.2.2.2.1, .string f.2.2.2.2.1, .bool f.2.2.2.2.2.1, .int .i64 f.2.2.2.2.2.2.1, .int .i64 f.2.2.2.2.2.2.2.1, .int .i64 f.2.2.2.2.2.2.2.2] 52, Item.own w0.heap.size q_.1 q_.2.2.1 q_.2.1 31 1 (cellsOf encI (q_.2.2.2))]) (fun q_ => LnB q_.2.2.2 q_.2.2.1 4) ?_ ?_
  · skip
    refine WC.seq ?_
    refine WC.region ?_
    refine SL.pure rfl rfl rfl (PureOp.fieldAddrT 4 Try.underlying52 rfl sz9 rfl rfl) ?_
    refine SL.pure rfl rfl rfl (PureOp.load (v := .string f.2.2.2.2.1) Try.underlying9 rfl rfl (fun _ => (CellIs.cells 2 rfl rfl))) ?_
    refine SL.calle rfl rfl rfl rfl rfl rfl callable62 (fun w hw => class_ok f.2.2.2.2.1 (by omega) w) ?_
    refine SL.norm [_, _, _, _] rfl ?_
    refine SL.pure rfl rfl rfl (PureOp.not rfl) ?_
    refine SL.nil_then ?_
    refine WC.cond rfl (fun h4 => ?_) (fun h4 => ?_)
    · try simp only [Bool.and_eq_true, Bool.or_eq_true, Bool.not_eq_true', Bool.not_eq_false', Bool.and_eq_false_iff, Bool.or_eq_false_iff, decide_eq_true_eq, decide_eq_false_iff_not, Int.not_lt, Int.not_le, ne_eq, Decidable.not_not] at h4
      refine WC.region ?_
      refine SL.pure rfl rfl rfl (PureOp.move rfl) ?_
      refine SL.buildSlice rfl rfl Try.underlying89 elem31 rfl rfl rfl rfl (fun b7 hb7 => ?_)
      refine SL.norm [_, _, _, _, _] rfl ?_
      refine SL.append 3 rfl rfl Try.underlying89 elem31 rfl rfl rfl rfl (SrcIs.own 4 rfl) (by rfl) (by omega) (by omega) (fun ao4_ cap4_ => ?_)
      refine SL.itemxs 3 rfl (show _ = cellsOf encI (L3_ ++ [(16 : Int)]) from by rw [cellsOf_append (l := L3_), cellsOf_one]; rfl) ?_
      refine SL.norm [_, _, _, _, _] rfl ?_
      refine SL.pure rfl rfl rfl (PureOp.assign rfl) ?_
      refine SL.nil ?_
      refine QX.cutx (σ := Option Addr × Nat × Nat × List Int) (E' := fun q_ => [(0, 0, .agg #[.slice aao an acap, .slice u3.ao u3.l.length u3.cap]), (1, 0, .agg #[.slice fao fn fcap, .slice rao rn rcap, .slice u1.ao u1.l.length u1.cap, .slice u2.ao u2.l.length u2.cap]), (2, 0, .agg #[.string f.1, .string f.2.1, .string f.2.2.1, .string f.2.2.2.1, .string f.2.2.2.2.1, .bool f.2.2.2.2.2.1, .int .i64 f.2.2.2.2.2.2.1, .int .i64 f.2.2.2.2.2.2.2.1, .int .i64 f.2.2.2.2.2.2.2.2]), (3, 0, .pointer (some ⟨b1, 0, none⟩)), (4, 0, .pointer (some ⟨b2, 0, none⟩)), (5, 0, .pointer (some ⟨b3, 0, none⟩)), (6, 0, .slice none 0 0), (7, 0, .slice q_.1 q_.2.2.1 q_.2.1)]) (H' := fun q_ => [Item.cells b1 [.slice aao an acap, .slice u3.ao u3.l.length u3.cap] 39, Item.cells b2 [.slice fao fn fcap, .slice rao rn rcap, .slice u1.ao u1.l.length u1.cap, .slice u2.ao u2.l.length u2.cap] 27, Item.cells b3 [.string f.1, .string f.2.1, .string f.2.2.1, .string f.2.2.2.1, .string f.2.2.2.2.1, .bool f.2.2.2.2.2.1, .int .i64 f.2.2.2.2.2.2.1, .int .i64 f.2.2.2.2.2.2.2.1, .int .i64 f.2.2.2.2.2.2.2.2] 52, Item.own w0.heap.size q_.1 q_.2.2.1 q_.2.1 31 1 (cellsOf encI (q_.2.2.2))]) (I := fun q_ => LnB q_.2.2.2 q_.2.2.1 4) 4 ((ao4_, cap4_, n3_ + 1, L3_ ++ [(16 : Int)])) ((by first | exact hF3.mono (by omega) | exact (hF3.snoc).mono (by omega) | exact (hF3.snoc.snoc).mono (by omega) | exact (hF3.snoc.snoc.snoc).mono (by omega))) ⟨rfl, rfl, rfl, rfl, rfl, rfl, rfl, rfl, rfl, rfl, rfl, rfl, rfl, rfl, rfl, rfl, trivial⟩ rfl
    · try simp only [Bool.and_eq_true, Bool.or_eq_true, Bool.not_eq_true', Bool.not_eq_false', Bool.and_eq_false_iff, Bool.or_eq_false_iff, decide_eq_true_eq, decide_eq_false_iff_not, Int.not_lt, Int.not_le, ne_eq, Decidable.not_not] at h4
      refine WC.skip ?_
      refine QX.cutx (σ := Option Addr × Nat × Nat × List Int) (E' := fun q_ => [(0, 0, .agg #[.slice aao an acap, .slice u3.ao u3.l.length u3.cap]), (1, 0, .agg #[.slice fao fn fcap, .slice rao rn rcap, .slice u1.ao u1.l.length u1.cap, .slice u2.ao u2.l.length u2.cap]), (2, 0, .agg #[.string f.1, .string f.2.1, .string f.2.2.1, .string f.2.2.2.1, .string f.2.2.2.2.1, .bool f.2.2.2.2.2.1, .int .i64 f.2.2.2.2.2.2.1, .int .i64 f.2.2.2.2.2.2.2.1, .int .i64 f.2.2.2.2.2.2.2.2]), (3, 0, .pointer (some ⟨b1, 0, none⟩)), (4, 0, .pointer (some ⟨b2, 0, none⟩)), (5, 0, .pointer (some ⟨b3, 0, none⟩)), (6, 0, .slice none 0 0), (7, 0, .slice q_.1 q_.2.2.1 q_.2.1)]) (H' := fun q_ => [Item.cells b1 [.slice aao an acap, .slice u3.ao u3.l.length u3.cap] 39, Item.cells b2 [.slice fao fn fcap, .slice rao rn rcap, .slice u1.ao u1.l.length u1.cap, .slice u2.ao u2.l.length u2.cap] 27, Item.cells b3 [.string f.1, .string f.2.1, .string f.2.2.1, .string f.2.2.2.1, .string f.2.2.2.2.1, .bool f.2.2.2.2.2.1, .int .i64 f.2.2.2.2.2.2.1, .int .i64 f.2.2.2.2.2.2.2.1, .int .i64 f.2.2.2.2.2.2.2.2] 52, Item.own w0.heap.size q_.1 q_.2.2.1 q_.2.1 31 1 (cellsOf encI (q_.2.2.2))]) (I := fun q_ => LnB q_.2.2.2 q_.2.2.1 4) 4 ((a3_, c3_, n3_, L3_)) ((by first | exact hF3.mono (by omega) | exact (hF3.snoc).mono (by omega) | exact (hF3.snoc.snoc).mono (by omega) | exact (hF3.snoc.snoc.snoc).mono (by omega))) ⟨rfl, rfl, rfl, rfl, rfl, rfl, rfl, rfl, rfl, rfl, rfl, rfl, rfl, rfl, rfl, rfl, trivial⟩ rfl
  rintro ⟨a4_, c4_, n4_, L4_⟩ hF4
  try dsimp only at *
  have hFl4 := hF4.le
  refine WC.seq ?_
  refine WC.region ?_
  refine SL.pure rfl rfl rfl (PureOp.loads (vs := [.slice fao fn fcap, .slice rao rn rcap, .slice u1.ao u1.l.length u1.cap, .slice u2.ao u2.l.length u2.cap]) Try.underlying27 rfl rfl (fun _ => (RowIs.cells 1 0 4 rfl rfl)) sz27) ?_
  refine SL.pure rfl rfl rfl (PureOp.fieldAddrT 7 Try.underlying52 rfl sz3 rfl rfl) ?_
  refine SL.pure rfl rfl rfl (PureOp.load (v := .int .i64 f.2.2.2.2.2.2.2.1) Try.underlying3 rfl rfl (fun _ => (CellIs.cells 2 rfl rfl))) ?_
  refine SL.calle rfl rfl rfl rfl rfl rfl callable47 (fun w hw => rrule_ok u1 u2 fl rl rao rn rcap fao fn fcap hfn hrn w (hf.below hw.below) (hr.below hw.below) hfb hrb f.2.2.2.2.2.2.2.1) ?_
  refine SL.norm [_, _, _, _] rfl ?_
  refine SL.pure rfl rfl rfl (PureOp.move rfl) ?_
  refine SL.pure rfl rfl rfl (PureOp.extract rfl rfl) ?_
  refine SL.pure rfl rfl rfl (PureOp.extract rfl rfl) ?_
  refine SL.alloc rfl rfl zero76 (fun b8 hb8 => ?_)
  refine SL.norm [_, _, _, _, _] rfl ?_
  refine SL.store 4 rfl rfl rfl rfl sz76 rfl rfl ?_
  refine SL.norm [_, _, _, _, _] rfl ?_
  refine SL.pure rfl rfl rfl (PureOp.assign rfl) ?_
  refine SL.nil_then ?_
  refine WC.cutx (σ := Option Addr × Nat × Nat × List Int) (fun q_ => [(0, 0, .agg #[.slice aao an acap, .slice u3.ao u3.l.length u3.cap]), (1, 0, .agg #[.slice fao fn fcap, .slice rao rn rcap, .slice u1.ao u1.l.length u1.cap, .slice u2.ao u2.l.length u2.cap]), (2, 0, .agg #[.string f.1, .string f.2.1, .string f.2.2.1, .string f.2.2.2.1, .string f.2.2.2.2.1, .bool f.2.2.2.2.2.1, .int .i64 f.2.2.2.2.2.2.1, .int .i64 f.2.2.2.2.2.2.2.1, .int .i64 f.2.2.2.2.2.2.2.2]), (3, 0, .pointer (some ⟨b1, 0, none⟩)), (4, 0, .pointer (some ⟨b2, 0, none⟩)), (5, 0, .pointer (some ⟨b3, 0, none⟩)), (6, 0, .slice none 0 0), (8, 0, .pointer (some ⟨b8, 0, none⟩)), (9, 0, .bool ((ruleE rl f.2.2.2.2.2.2.2.1).2)), (63, 0, .tuple #[.agg #[.int .i64 ((ruleE rl f.2.2.2.2.2.2.2.1).1.1), .int .i64 ((ruleE rl f.2.2.2.2.2.2.2.1).1.2.1.1), .slice ((ruleE rl f.2.2.2.2.2.2.2.1).1.2.1.2.1.ao) ((ruleE rl f.2.2.2.2.2.2.2.1).1.2.1.2.1.l.length) ((ruleE rl f.2.2.2.2.2.2.2.1).1.2.1.2.1.cap), .int .i64 ((ruleE rl f.2.2.2.2.2.2.2.1).1.2.1.2.2.1), .int .i64 ((ruleE rl f.2.2.2.2.2.2.2.1).1.2.1.2.2.2.1), .int .i64 ((ruleE rl f.2.2.2.2.2.2.2.1).1.2.1.2.2.2.2.1.1), .int .i64 ((ruleE rl f.2.2.2.2.2.2.2.1).1.2.1.2.2.2.2.1.2.1), .int .i64 ((ruleE rl f.2.2.2.2.2.2.2.1).1.2.1.2.2.2.2.1.2.2), .slice ((ruleE rl f.2.2.2.2.2.2.2.1).1.2.1.2.2.2.2.2.ao) ((ruleE rl f.2.2.2.2.2.2.2.1).1.2.1.2.2.2.2.2.l.length) ((ruleE rl f.2.2.2.2.2.2.2.1).1.2.1.2.2.2.2.2.cap), .slice ((ruleE rl f.2.2.2.2.2.2.2.1).1.2.2.1.ao) ((ruleE rl f.2.2.2.2.2.2.2.1).1.2.2.1.l.length) ((ruleE rl f.2.2.2.2.2.2.2.1).1.2.2.1.cap), .int .i64 ((ruleE rl f.2.2.2.2.2.2.2.1).1.2.2.2.1), .int .i64 ((ruleE rl f.2.2.2.2.2.2.2.1).1.2.2.2.2.1), .int .i64 ((ruleE rl f.2.2.2.2.2.2.2.1).1.2.2.2.2.2.1), .int .i64 ((ruleE rl f.2.2.2.2.2.2.2.1).1.2.2.2.2.2.2.1), .slice ((ruleE rl f.2.2.2.2.2.2.2.1).1.2.2.2.2.2.2.2.ao) ((ruleE rl f.2.2.2.2.2.2.2.1).1.2.2.2.2.2.2.2.l.length) ((ruleE rl f.2.2.2.2.2.2.2.1).1.2.2.2.2.2.2.2.cap)], .bool ((ruleE rl f.2.2.2.2.2.2.2.1).2)]), (64, 0, .agg #[.slice fao fn fcap, .slice rao rn rcap, .slice u1.ao u1.l.length u1.cap, .slice u2.ao u2.l.length u2.cap]), (65, 0, .pointer (some ⟨b3, 7, none⟩)), (66, 0, .int .i64 f.2.2.2.2.2.2.2.1), (67, 0, .tuple #[.agg #[.int .i64 ((ruleE rl f.2.2.2.2.2.2.2.1).1.1), .int .i64 ((ruleE rl f.2.2.2.2.2.2.2.1).1.2.1.1), .slice ((ruleE rl f.2.2.2.2.2.2.2.1).1.2.1.2.1.ao) ((ruleE rl f.2.2.2.2.2.2.2.1).1.2.1.2.1.l.length) ((ruleE rl f.2.2.2.2.2.2.2.1).1.2.1.2.1.cap), .int .i64 ((ruleE rl f.2.2.2.2.2.2.2.1).1.2.1.2.2.1), .int .i64 ((ruleE rl f.2.2.2.2.2.2.2.1).1.2.1.2.2.2.1), .int .i64 ((ruleE rl f.2.2.2.2.2.2.2.1).1.2.1.2.2.2.2.1.1), .int .i64 ((ruleE rl f.2.2.2.2.2.2.2.1).1.2.1.2.2.2.2.1.2.1), .int .i64 ((ruleE rl f.2.2.2.2.2.2.2.1).1.2.1.2.2.2.2.1.2.2), .slice ((ruleE rl f.2.2.2.2.2.2.2.1).1.2.1.2.2.2.2.2.ao) ((ruleE rl f.2.2.2.2.2.2.2.1).1.2.1.2.2.2.2.2.l.length) ((ruleE rl f.2.2.2.2.2.2.2.1).1.2.1.2.2.2.2.2.cap), .slice ((ruleE rl f.2.2.2.2.2.2.2.1).1.2.2.1.ao) ((ruleE rl f.2.2.2.2.2.2.2.1).1.2.2.1.l.length) ((ruleE rl f.2.2.2.2.2.2.2.1).1.2.2.1.cap), .int .i64 ((ruleE rl f.2.2.2.2.2.2.2.1).1.2.2.2.1), .int .i64 ((ruleE rl f.2.2.2.2.2.2.2.1).1.2.2.2.2.1), .int .i64 ((ruleE rl f.2.2.2.2.2.2.2.1).1.2.2.2.2.2.1), .int .i64 ((ruleE rl f.2.2.2.2.2.2.2.1).1.2.2.2.2.2.2.1), .slice ((ruleE rl f.2.2.2.2.2.2.2.1).1.2.2.2.2.2.2.2.ao) ((ruleE rl f.2.2.2.2.2.2.2.1).1.2.2.2.2.2.2.2.l.length) ((ruleE rl f.2.2.2.2.2.2.2.1).1.2.2.2.2.2.2.2.cap)], .bool ((ruleE rl f.2.2.2.2.2.2.2.1).2)]), (68, 0, .agg #[.int .i64 ((ruleE rl f.2.2.2.2.2.2.2.1).1.1), .int .i64 ((ruleE rl f.2.2.2.2.2.2.2.1).1.2.1.1), .slice ((ruleE rl f.2.2.2.2.2.2.2.1).1.2.1.2.1.ao) ((ruleE rl f.2.2.2.2.2.2.2.1).1.2.1.2.1.l.length) ((ruleE rl f.2.2.2.2.2.2.2.1).1.2.1.2.1.cap), .int .i64 ((ruleE rl f.2.2.2.2.2.2.2.1).1.2.1.2.2.1), .int .i64 ((ruleE rl f.2.2.2.2.2.2.2.1).1.2.1.2.2.2.1), .int .i64 ((ruleE rl f.2.2.2.2.2.2.2.1).1.2.1.2.2.2.2.1.1), .int .i64 ((ruleE rl f.2.2.2.2.2.2.2.1).1.2.1.2.2.2.2.1.2.1), .int .i64 ((ruleE rl f.2.2.2.2.2.2.2.1).1.2.1.2.2.2.2.1.2.2), .slice ((ruleE rl f.2.2.2.2.2.2.2.1).1.2.1.2.2.2.2.2.ao) ((ruleE rl f.2.2.2.2.2.2.2.1).1.2.1.2.2.2.2.2.l.length) ((ruleE rl f.2.2.2.2.2.2.2.1).1.2.1.2.2.2.2.2.cap), .slice ((ruleE rl f.2.2.2.2.2.2.2.1).1.2.2.1.ao) ((ruleE rl f.2.2.2.2.2.2.2.1).1.2.2.1.l.length) ((ruleE rl f.2.2.2.2.2.2.2.1).1.2.2.1.cap), .int .i64 ((ruleE rl f.2.2.2.2.2.2.2.1).1.2.2.2.1), .int .i64 ((ruleE rl f.2.2.2.2.2.2.2.1).1.2.2.2.2.1), .int .i64 ((ruleE rl f.2.2.2.2.2.2.2.1).1.2.2.2.2.2.1), .int .i64 ((ruleE rl f.2.2.2.2.2.2.2.1).1.2.2.2.2.2.2.1), .slice ((ruleE rl f.2.2.2.2.2.2.2.1).1.2.2.2.2.2.2.2.ao) ((ruleE rl f.2.2.2.2.2.2.2.1).1.2.2.2.2.2.2.2.l.length) ((ruleE rl f.2.2.2.2.2.2.2.1).1.2.2.2.2.2.2.2.cap)]), (69, 0, .bool ((ruleE rl f.2.2.2.2.2.2.2.1).2)), (7, 0, .slice q_.1 q_.2.2.1 q_.2.1)]) (fun q_ => [Item.cells b1 [.slice aao an acap, .slice u3.ao u3.l.length u3.cap] 39, Item.cells b2 [.slice fao fn fcap, .slice rao rn rcap, .slice u1.ao u1.l.length u1.cap, .slice u2.ao u2.l.length u2.cap] 27, Item.cells b3 [.string f.1, .string f.2.1, .string f.2.2.1, .string f.2.2.2.1, .string f.2.2.2.2.1, .bool f.2.2.2.2.2.1, .int .i64 f.2.2.2.2.2.2.1, .int .i64 f.2.2.2.2.2.2.2.1, .int .i64 f.2.2.2.2.2.2.2.2] 52, Item.own w0.heap.size q_.1 q_.2.2.1 q_.2.1 31 1 (cellsOf encI (q_.2.2.2)), Item.cells b8 [.int .i64 ((ruleE rl f.2.2.2.2.2.2.2.1).1.1), .int .i64 ((ruleE rl f.2.2.2.2.2.2.2.1).1.2.1.1), .slice ((ruleE rl f.2.2.2.2.2.2.2.1).1.2.1.2.1.ao) ((ruleE rl f.2.2.2.2.2.2.2.1).1.2.1.2.1.l.length) ((ruleE rl f.2.2.2.2.2.2.2.1).1.2.1.2.1.cap), .int .i64 ((ruleE rl f.2.2.2.2.2.2.2.1).1.2.1.2.2.1), .int .i64 ((ruleE rl f.2.2.2.2.2.2.2.1).1.2.1.2.2.2.1), .int .i64 ((ruleE rl f.2.2.2.2.2.2.2.1).1.2.1.2.2.2.2.1.1), .int .i64 ((ruleE rl f.2.2.2.2.2.2.2.1).1.2.1.2.2.2.2.1.2.1), .int .i64 ((ruleE rl f.2.2.2.2.2.2.2.1).1.2.1.2.2.2.2.1.2.2), .slice ((ruleE rl f.2.2.2.2.2.2.2.1).1.2.1.2.2.2.2.2.ao) ((ruleE rl f.2.2.2.2.2.2.2.1).1.2.1.2.2.2.2.2.l.length) ((ruleE rl f.2.2.2.2.2.2.2.1).1.2.1.2.2.2.2.2.cap), .slice ((ruleE rl f.2.2.2.2.2.2.2.1).1.2.2.1.ao) ((ruleE rl f.2.2.2.2.2.2.2.1).1.2.2.1.l.length) ((ruleE rl f.2.2.2.2.2.2.2.1).1.2.2.1.cap), .int .i64 ((ruleE rl f.2.2.2.2.2.2.2.1).1.2.2.2.1), .int .i64 ((ruleE rl f.2.2.2.2.2.2.2.1).1.2.2.2.2.1), .int .i64 ((ruleE rl f.2.2.2.2.2.2.2.1).1.2.2.2.2.2.1), .int .i64 ((ruleE rl f.2.2.2.2.2.2.2.1).1.2.2.2.2.2.2.1), .slice ((ruleE rl f.2.2.2.2.2.2.2.1).1.2.2.2.2.2.2.2.ao) ((ruleE rl f.2.2.2.2.2.2.2.1).1.2.2.2.2.2.2.2.l.length) ((ruleE rl f.2.2.2.2.2.2.2.1).1.2.2.2.2.2.2.2.cap)] 76]) (fun q_ => LnB q_.2.2.2 q_.2.2.1 5) ?_ ?_
  · skip
    refine WC.seq ?_
    refine WC.region ?_
    refine SL.pure rfl rfl rfl (PureOp.move rfl) ?_
    refine SL.pure rfl rfl rfl (PureOp.not rfl) ?_
    refine SL.nil_then ?_
    refine WC.cond rfl (fun h5 => ?_) (fun h5 => ?_)
    · try simp only [Bool.and_eq_true, Bool.or_eq_true, Bool.not_eq_true', Bool.not_eq_false', Bool.and_eq_false_iff, Bool.or_eq_false_iff, decide_eq_true_eq, decide_eq_false_iff_not, Int.not_lt, Int.not_le, ne_eq, Decidable.not_not] at h5
      refine WC.region ?_
      refine SL.pure rfl rfl rfl (PureOp.move rfl) ?_
      refine SL.buildSlice rfl rfl Try.underlying89 elem31 rfl rfl rfl rfl (fun b9 hb9 => ?_)
      refine SL.norm [_, _, _, _, _, _] rfl ?_
      refine SL.append 3 rfl rfl Try.underlying89 elem31 rfl rfl rfl rfl (SrcIs.own 5 rfl) (by rfl) (by omega) (by omega) (fun ao5_ cap5_ => ?_)
      refine SL.itemxs 3 rfl (show _ = cellsOf encI (L4_ ++ [(20 : Int)]) from by rw [cellsOf_append (l := L4_), cellsOf_one]; rfl) ?_
      refine SL.norm [_, _, _, _, _, _] rfl ?_
      refine SL.pure rfl rfl rfl (PureOp.assign rfl) ?_
      refine SL.nil ?_
      refine QX.cutx (σ := Option Addr × Nat × Nat × List Int) (E' := fun q_ => [(0, 0, .agg #[.slice aao an acap, .slice u3.ao u3.l.length u3.cap]), (1, 0, .agg #[.slice fao fn fcap, .slice rao rn rcap, .slice u1.ao u1.l.length u1.cap, .slice u2.ao u2.l.length u2.cap]), (2, 0, .agg #[.string f.1, .string f.2.1, .string f.2.2.1, .string f.2.2.2.1, .string f.2.2.2.2.1, .bool f.2.2.2.2.2.1, .int .i64 f.2.2.2.2.2.2.1, .int .i64 f.2.2.2.2.2.2.2.1, .int .i64 f.2.2.2.2.2.2.2.2]), (3, 0, .pointer (some ⟨b1, 0, none⟩)), (4, 0, .pointer (some ⟨b2, 0, none⟩)), (5, 0, .pointer (some ⟨b3, 0, none⟩)), (6, 0, .slice none 0 0), (8, 0, .pointer (some ⟨b8, 0, none⟩)), (9, 0, .bool ((ruleE rl f.2.2.2.2.2.2.2.1).2)), (63, 0, .tuple #[.agg #[.int .i64 ((ruleE rl f.2.2.2.2.2.2.2.1).1.1), .int .i64 ((ruleE rl f.2.2.2.2.2.2.2.1).1.2.1.1), .slice ((ruleE rl f.2.2.2.2.2.2.2.1).1.2.1.2.1.ao) ((ruleE rl f.2.2.2.2.2.2.2.1).1.2.1.2.1.l.length) ((ruleE rl f.2.2.2.2.2.2.2.1).1.2.1.2.1.cap), .int .i64 ((ruleE rl f.2.2.2.2.2.2.2.1).1.2.1.2.2.1), .int .i64 ((ruleE rl f.2.2.2.2.2.2.2.1).1.2.1.2.2.2.1), .int .i64 ((ruleE rl f.2.2.2.2.2.2.2.1).1.2.1.2.2.2.2.1.1), .int .i64 ((ruleE rl f.2.2.2.2.2.2.2.1).1.2.1.2.2.2.2.1.2.1), .int .i64 ((ruleE rl f.2.2.2.2.2.2.2.1).1.2.1.2.2.2.2.1.2.2), .slice ((ruleE rl f.2.2.2.2.2.2.2.1).1.2.1.2.2.2.2.2.ao) ((ruleE rl f.2.2.2.2.2.2.2.1).1.2.1.2.2.2.2.2.l.length) ((ruleE rl f.2.2.2.2.2.2.2.1).1.2.1.2.2.2.2.2.cap), .slice ((ruleE rl f.2.2.2.2.2.2.2.1).1.2.2.1.ao) ((ruleE rl f.2.2.2.2.2.2.2.1).1.2.2.1.l.length) ((ruleE rl f.2.2.2.2.2.2.2.1).1.2.2.1.cap), .int .i64 ((ruleE rl f.2.2.2.2.2.2.2.1).1.2.2.2.1), .int .i64 ((ruleE rl f.2.2.2.2.2.2.2.1).1.2.2.2.2.1), .int .i64 ((ruleE rl f.2.2.2.2.2.2.2.1).1.2.2.2.2.2.1), .int .i64 ((ruleE rl f.2.2.2.2.2.2.2.1).1.2.2.2.2.2.2.1), .slice ((ruleE rl f.2.2.2.2.2.2.2.1).1.2.2.2.2.2.2.2.ao) ((ruleE rl f.2.2.2.2.2.2.2.1).1.2.2.2.2.2.2.2.l.length) ((ruleE rl f.2.2.2.2.2.2.2.1).1.2.2.2.2.2.2.2.cap)], .bool ((ruleE rl f.2.2.2.2.2.2.2.1).2)]), (64, 0, .agg #[.slice fao fn fcap, .slice rao rn rcap, .slice u1.ao u1.l.length u1.cap, .slice u2.ao u2.l.length u2.cap]), (65, 0, .pointer (some ⟨b3, 7, none⟩)), (66, 0, .int .i64 f.2.2.2.2.2.2.2.1), (67, 0, .tuple #[.agg #[.int .i64 ((ruleE rl f.2.2.2.2.2.2.2.1).1.1), .int .i64 ((ruleE rl f.2.2.2.2.2.2.2.1).1.2.1.1), .slice ((ruleE rl f.2.2.2.2.2.2.2.1).1.2.1.2.1.ao) ((ruleE rl f.2.2.2.2.2.2.2.1).1.2.1.2.1.l.length) ((ruleE rl f.2.2.2.2.2.2.2.1).1.2.1.2.1.cap), .int .i64 ((ruleE rl f.2.2.2.2.2.2.2.1).1.2.1.2.2.1), .int .i64 ((ruleE rl f.2.2.2.2.2.2.2.1).1.2.1.2.2.2.1), .int .i64 ((ruleE rl f.2.2.2.2.2.2.2.1).1.2.1.2.2.2.2.1.1), .int .i64 ((ruleE rl f.2.2.2.2.2.2.2.1).1.2.1.2.2.2.2.1.2.1), .int .i64 ((ruleE rl f.2.2.2.2.2.2.2.1).1.2.1.2.2.2.2.1.2.2), .slice ((ruleE rl f.2.2.2.2.2.2.2.1).1.2.1.2.2.2.2.2.ao) ((ruleE rl f.2.2.2.2.2.2.2.1).1.2.1.2.2.2.2.2.l.length) ((ruleE rl f.2.2.2.2.2.2.2.1).1.2.1.2.2.2.2.2.cap), .slice ((ruleE rl f.2.2.2.2.2.2.2.1).1.2.2.1.ao) ((ruleE rl f.2.2.2.2.2.2.2.1).1.2.2.1.l.length) ((ruleE rl f.2.2.2.2.2.2.2.1).1.2.2.1.cap), .int .i64 ((ruleE rl f.2.2.2.2.2.2.2.1).1.2.2.2.1), .int .i64 ((ruleE rl f.2.2.2.2.2.2.2.1).1.2.2.2.2.1), .int .i64 ((ruleE rl f.2.2.2.2.2.2.2.1).1.2.2.2.2.2.1), .int .i64 ((ruleE rl f.2.2.2.2.2.2.2.1).1.2.2.2.2.2.2.1), .slice ((ruleE rl f.2.2.2.2.2.2.2.1).1.2.2.2.2.2.2.2.ao) ((ruleE rl f.2.2.2.2.2.2.2.1).1.2.2.2.2.2.2.2.l.length) ((ruleE rl f.2.2.2.2.2.2.2.1).1.2.2.2.2.2.2.2.cap)], .bool ((ruleE rl f.2.2.2.2.2.2.2.1).2)]), (68, 0, .agg #[.int .i64 ((ruleE rl f.2.2.2.2.2.2.2.1).1.1), .int .i64 ((ruleE rl f.2.2.2.2.2.2.2.1).1.2.1.1), .slice ((ruleE rl f.2.2.2.2.2.2.2.1).1.2.1.2.1.ao) ((ruleE rl f.2.2.2.2.2.2.2.1).1.2.1.2.1.l.length) ((ruleE rl f.2.2.2.2.2.2.2.1).1.2.1.2.1.cap), .int .i64 ((ruleE rl f.2.2.2.2.2.2.2.1).1.2.1.2.2.1), .int .i64 ((ruleE rl f.2.2.2.2.2.2.2.1).1.2.1.2.2.2.1), .int .i64 ((ruleE rl f.2.2.2.2.2.2.2.1).1.2.1.2.2.2.2.1.1), .int .i64 ((ruleE rl f.2.2.2.2.2.2.2.1).1.2.1.2.2.2.2.1.2.1), .int .i64 ((ruleE rl f.2.2.2.2.2.2.2.1).1.2.1.2.2.2.2.1.2.2), .slice ((ruleE rl f.2.2.2.2.2.2.2.1).1.2.1.2.2.2.2.2.ao) ((ruleE rl f.2.2.2.2.2.2.2.1).1.2.1.2.2.2.2.2.l.length) ((ruleE rl f.2.2.2.2.2.2.2.1).1.2.1.2.2.2.2.2.cap), .slice ((ruleE rl f.2.2.2.2.2.2.2.1).1.2.2.1.ao) ((ruleE rl f.2.2.2.2.2.2.2.1).1.2.2.1.l.length) ((ruleE rl f.2.2.2.2.2.2.2.1).1.2.2.1.cap), .int .i64 ((ruleE rl f.2.2.2.2.2.2.2.1).1.2.2.2.1), .int .i64 ((ruleE rl f.2.2.2.2.2.2.2.1).1.2.2.2.2.1), .int .i64 ((ruleE rl f.2.2.2.2.2.2.2.1).1.2.2.2.2.2.1), .int .i64 ((ruleE rl f.2.2.2.2.2.2.2.1).1.2.2.2.2.2.2.1), .slice ((ruleE rl f.2.2.2.2.2.2.2.1).1.2.2.2.2.2.2.2.ao) ((ruleE rl f.2.2.2.2.2.2.2.1).1.2.2.2.2.2.2.2.l.length) ((ruleE rl f.2.2.2.2.2.2.2.1).1.2.2.2.2.2.2.2.cap)]), (69, 0, .bool ((ruleE rl f.2.2.2.2.2.2.2.1).2)), (7, 0, .slice q_.1 q_.2.2.1 q_.2.1)]) (H' := fun q_ => [Item.cells b1 [.slice aao an acap, .slice u3.ao u3.l.length u3.cap] 39, Item.cells b2 [.slice fao fn fcap, .slice rao rn rcap, .slice u1.ao u1.l.length u1.cap, .slice u2.ao u2.l.length u2.cap] 27, Item.cells b3 [.string f.1, .string f.2.1, .string f.2.2.1, .string f.2.2.2.1, .string f.2.2.2.2.1, .bool f.2.2.2.2.2.1, .int .i64 f.2.2.2.2.2.2.1, .int .i64 f.2.2.2.2.2.2.2.1, .int .i64 f.2.2.2.2.2.2.2.2] 52, Item.own w0.heap.size q_.1 q_.2.2.1 q_.2.1 31 1 (cellsOf encI (q_.2.2.2)), Item.cells b8 [.int .i64 ((ruleE rl f.2.2.2.2.2.2.2.1).1.1), .int .i64 ((ruleE rl f.2.2.2.2.2.2.2.1).1.2.1.1), .slice ((ruleE rl f.2.2.2.2.2.2.2.1).1.2.1.2.1.ao) ((ruleE rl f.2.2.2.2.2.2.2.1).1.2.1.2.1.l.length) ((ruleE rl f.2.2.2.2.2.2.2.1).1.2.1.2.1.cap), .int .i64 ((ruleE rl f.2.2.2.2.2.2.2.1).1.2.1.2.2.1), .int .i64 ((ruleE rl f.2.2.2.2.2.2.2.1).1.2.1.2.2.2.1), .int .i64 ((ruleE rl f.2.2.2.2.2.2.2.1).1.2.1.2.2.2.2.1.1), .int .i64 ((ruleE rl f.2.2.2.2.2.2.2.1).1.2.1.2.2.2.2.1.2.1), .int .i64 ((ruleE rl f.2.2.2.2.2.2.2.1).1.2.1.2.2.2.2.1.2.2), .slice ((ruleE rl f.2.2.2.2.2.2.2.1).1.2.1.2.2.2.2.2.ao) ((ruleE rl f.2.2.2.2.2.2.2.1).1.2.1.2.2.2.2.2.l.length) ((ruleE rl f.2.2.2.2.2.2.2.1).1.2.1.2.2.2.2.2.cap), .slice ((ruleE rl f.2.2.2.2.2.2.2.1).1.2.2.1.ao) ((ruleE rl f.2.2.2.2.2.2.2.1).1.2.2.1.l.length) ((ruleE rl f.2.2.2.2.2.2.2.1).1.2.2.1.cap), .int .i64 ((ruleE rl f.2.2.2.2.2.2.2.1).1.2.2.2.1), .int .i64 ((ruleE rl f.2.2.2.2.2.2.2.1).1.2.2.2.2.1), .int .i64 ((ruleE rl f.2.2.2.2.2.2.2.1).1.2.2.2.2.2.1), .int .i64 ((ruleE rl f.2.2.2.2.2.2.2.1).1.2.2.2.2.2.2.1), .slice ((ruleE rl f.2.2.2.2.2.2.2.1).1.2.2.2.2.2.2.2.ao) ((ruleE rl f.2.2.2.2.2.2.2.1).1.2.2.2.2.2.2.2.l.length) ((ruleE rl f.2.2.2.2.2.2.2.1).1.2.2.2.2.2.2.2.cap)] 76]) (I := fun q_ => LnB q_.2.2.2 q_.2.2.1 5) 5 ((ao5_, cap5_, n4_ + 1, L4_ ++ [(20 : Int)])) ((by first | exact hF4.mono (by omega) | exact (hF4.snoc).mono (by omega) | exact (hF4.snoc.snoc).mono (by omega) | exact (hF4.snoc.snoc.snoc).mono (by omega))) ⟨rfl, rfl, rfl, rfl, rfl, rfl, rfl, rfl, rfl, rfl, rfl, rfl, rfl, rfl, rfl, rfl, rfl, rfl, rfl, rfl, rfl, rfl, rfl, rfl, rfl, rfl, rfl, rfl, rfl, rfl, rfl, rfl, rfl, rfl, trivial⟩ rfl
    · try simp only [Bool.and_eq_true, Bool.or_eq_true, Bool.not_eq_true', Bool.not_eq_false', Bool.and_eq_false_iff, Bool.or_eq_false_iff, decide_eq_true_eq, decide_eq_false_iff_not, Int.not_lt, Int.not_le, ne_eq, Decidable.not_not] at h5
      refine WC.skip ?_
      refine QX.cutx (σ := Option Addr × Nat × Nat × List Int) (E' := fun q_ => [(0, 0, .agg #[.slice aao an acap, .slice u3.ao u3.l.length u3.cap]), (1, 0, .agg #[.slice fao fn fcap, .slice rao rn rcap, .slice u1.ao u1.l.length u1.cap, .slice u2.ao u2.l.length u2.cap]), (2, 0, .agg #[.string f.1, .string f.2.1, .string f.2.2.1, .string f.2.2.2.1, .string f.2.2.2.2.1, .bool f.2.2.2.2.2.1, .int .i64 f.2.2.2.2.2.2.1, .int .i64 f.2.2.2.2.2.2.2.1, .int .i64 f.2.2.2.2.2.2.2.2]), (3, 0, .pointer (some ⟨b1, 0, none⟩)), (4, 0, .pointer (some ⟨b2, 0, none⟩)), (5, 0, .pointer (some ⟨b3, 0, none⟩)), (6, 0, .slice none 0 0), (8, 0, .pointer (some ⟨b8, 0, none⟩)), (9, 0, .bool ((ruleE rl f.2.2.2.2.2.2.2.1).2)), (63, 0, .tuple #[.agg #[.int .i64 ((ruleE rl f.2.2.2.2.2.2.2.1).1.1), .int .i64 ((ruleE rl f.2.2.2.2.2.2.2.1).1.2.1.1), .slice ((ruleE rl f.2.2.2.2.2.2.2.1).1.2.1.2.1.ao) ((ruleE rl f.2.2.2.2.2.2.2.1).1.2.1.2.1.l.length) ((ruleE rl f.2.2.2.2.2.2.2.1).1.2.1.2.1.cap), .int .i64 ((ruleE rl f.2.2.2.2.2.2.2.1).1.2.1.2.2.1), .int .i64 ((ruleE rl f.2.2.2.2.2.2.2.1).1.2.1.2.2.2.1), .int .i64 ((ruleE rl f.2.2.2.2.2.2.2.1).1.2.1.2.2.2.2.1.1), .int .i64 ((ruleE rl f.2.2.2.2.2.2.2.1).1.2.1.2.2.2.2.1.2.1), .int .i64 ((ruleE rl f.2.2.2.2.2.2.2.1).1.2.1.2.2.2.2.1.2.2), .slice ((ruleE rl f.2.2.2.2.2.2.2.1).1.2.1.2.2.2.2.2.ao) ((ruleE rl f.2.2.2.2.2.2.2.1).1.2.1.2.2.2.2.2.l.length) ((ruleE rl f.2.2.2.2.2.2.2.1).1.2.1.2.2.2.2.2.cap), .slice ((ruleE rl f.2.2.2.2.2.2.2.1).1.2.2.1.ao) ((ruleE rl f.2.2.2.2.2.2.2.1).1.2.2.1.l.length) ((ruleE rl f.2.2.2.2.2.2.2.1).1.2.2.1.cap), .int .i64 ((ruleE rl f.2.2.2.2.2.2.2.1).1.2.2.2.1), .int .i64 ((ruleE rl f.2.2.2.2.2.2.2.1).1.2.2.2.2.1), .int .i64 ((ruleE rl f.2.2.2.2.2.2.2.1).1.2.2.2.2.2.1), .int .i64 ((ruleE rl f.2.2.2.2.2.2.2.1).1.2.2.2.2.2.2.1), .slice ((ruleE rl f.2.2.2.2.2.2.2.1).1.2.2.2.2.2.2.2.ao) ((ruleE rl f.2.2.2.2.2.2.2.1).1.2.2.2.2.2.2.2.l.length) ((ruleE rl f.2.2.2.2.2.2.2.1).1.2.2.2.2.2.2.2.cap)], .bool ((ruleE rl f.2.2.2.2.2.2.2.1).2)]), (64, 0, .agg #[.slice fao fn fcap, .slice rao rn rcap, .slice u1.ao u1.l.length u1.cap, .slice u2.ao u2.l.length u2.cap]), (65, 0, .pointer (some ⟨b3, 7, none⟩)), (66, 0, .int .i64 f.2.2.2.2.2.2.2.1), (67, 0, .tuple #[.agg #[.int .i64 ((ruleE rl f.2.2.2.2.2.2.2.1).1.1), .int .i64 ((ruleE rl f.2.2.2.2.2.2.2.1).1.2.1.1), .slice ((ruleE rl f.2.2.2.2.2.2.2.1).1.2.1.2.1.ao) ((ruleE rl f.2.2.2.2.2.2.2.1).1.2.1.2.1.l.length) ((ruleE rl f.2.2.2.2.2.2.2.1).1.2.1.2.1.cap), .int .i64 ((ruleE rl f.2.2.2.2.2.2.2.1).1.2.1.2.2.1), .int .i64 ((ruleE rl f.2.2.2.2.2.2.2.1).1.2.1.2.2.2.1), .int .i64 ((ruleE rl f.2.2.2.2.2.2.2.1).1.2.1.2.2.2.2.1.1), .int .i64 ((ruleE rl f.2.2.2.2.2.2.2.1).1.2.1.2.2.2.2.1.2.1), .int .i64 ((ruleE rl f.2.2.2.2.2.2.2.1).1.2.1.2.2.2.2.1.2.2), .slice ((ruleE rl f.2.2.2.2.2.2.2.1).1.2.1.2.2.2.2.2.ao) ((ruleE rl f.2.2.2.2.2.2.2.1).1.2.1.2.2.2.2.2.l.length) ((ruleE rl f.2.2.2.2.2.2.2.1).1.2.1.2.2.2.2.2.cap), .slice ((ruleE rl f.2.2.2.2.2.2.2.1).1.2.2.1.ao) ((ruleE rl f.2.2.2.2.2.2.2.1).1.2.2.1.l.length) ((ruleE rl f.2.2.2.2.2.2.2.1).1.2.2.1.cap), .int .i64 ((ruleE rl f.2.2.2.2.2.2.2.1).1.2.2.2.1), .int .i64 ((ruleE rl f.2.2.2.2.2.2.2.1).1.2.2.2.2.1), .int .i64 ((ruleE rl f.2.2.2.2.2.2.2.1).1.2.2.2.2.2.1), .int .i64 ((ruleE rl f.2.2.2.2.2.2.2.1).1.2.2.2.2.2.2.1), .slice ((ruleE rl f.2.2.2.2.2.2.2.1).1.2.2.2.2.2.2.2.ao) ((ruleE rl f.2.2.2.2.2.2.2.1).1.2.2.2.2.2.2.2.l.length) ((ruleE rl f.2.2.2.2.2.2.2.1).1.2.2.2.2.2.2.2.cap)], .bool ((ruleE rl f.2.2.2.2.2.2.2.1).2)]), (68, 0, .agg #[.int .i64 ((ruleE rl f.2.2.2.2.2.2.2.1).1.1), .int .i64 ((ruleE rl f.2.2.2.2.2.2.2.1).1.2.1.1), .slice ((ruleE rl f.2.2.2.2.2.2.2.1).1.2.1.2.1.ao) ((ruleE rl f.2.2.2.2.2.2.2.1).1.2.1.2.1.l.length) ((ruleE rl f.2.2.2.2.2.2.2.1).1.2.1.2.1.cap), .int .i64 ((ruleE rl f.2.2.2.2.2.2.2.1).1.2.1.2.2.1), .int .i64 ((ruleE rl f.2.2.2.2.2.2.2.1).1.2.1.2.2.2.1), .int .i64 ((ruleE rl f.2.2.2.2.2.2.2.1).1.2.1.2.2.2.2.1.1), .int .i64 ((ruleE rl f.2.2.2.2.2.2.2.1).1.2.1.2.2.2.2.1.2.1), .int .i64 ((ruleE rl f.2.2.2.2.2.2.2.1).1.2.1.2.2.2.2.1.2.2), .slice ((ruleE rl f.2.2.2.2.2.2.2.1).1.2.1.2.2.2.2.2.ao) ((ruleE rl f.2.2.2.2.2.2.2.1).1.2.1.2.2.2.2.2.l.length) ((ruleE rl f.2.2.2.2.2.2.2.1).1.2.1.2.2.2.2.2.cap), .slice ((ruleE rl f.2.2.2.2.2.2.2.1).1.2.2.1.ao) ((ruleE rl f.2.2.2.2.2.2.2.1).1.2.2.1.l.length) ((ruleE rl f.2.2.2.2.2.2.2.1).1.2.2.1.cap), .int .i64 ((ruleE rl f.2.2.2.2.2.2.2.1).1.2.2.2.1), .int .i64 ((ruleE rl f.2.2.2.2.2.2.2.1).1.2.2.2.2.1), .int .i64 ((ruleE rl f.2.2.2.2.2.2.2.1).1.2.2.2.2.2.1), .int .i64 ((ruleE rl f.2.2.2.2.2.2.2.1).1.2.2.2.2.2.2.1), .slice ((ruleE rl f.2.2.2.2.2.2.2.1).1.2.2.2.2.2.2.2.ao) ((ruleE rl f.2.2.2.2.2.2.2.1).1.2.2.2.2.2.2.2.l.length) ((ruleE rl f.2.2.2.2.2.2.2.1).1.2.2.2.2.2.2.2.cap)]), (69, 0, .bool ((ruleE rl f.2.2.2.2.2.2.2.1).2)), (7, 0, .slice q_.1 q_.2.2.1 q_.2.1)]) (H' := fun q_ => [Item.cells b1 [.slice aao an acap, .slice u3.ao u3.l.length u3.cap] 39, Item.cells b2 [.slice fao fn fcap, .slice rao rn rcap, .slice u1.ao u1.l.length u1.cap, .slice u2.ao u2.l.length u2.cap] 27, Item.cells b3 [.string f.1, .string f.2.1, .string f.2.2.1, .string f.2.2.2.1, .string f.2.2.2.2.1, .bool f.2.2.2.2.2.1, .int .i64 f.2.2.2.2.2.2.1, .int .i64 f.2.2.2.2.2.2.2.1, .int .i64 f.2.2.2.2.2.2.2.2] 52, Item.own w0.heap.size q_.1 q_.2.2.1 q_.2.1 31 1 (cellsOf encI (q_.2.2.2)), Item.cells b8 [.int .i64 ((ruleE rl f.2.2.2.2.2.2.2.1).1.1), .int .i64 ((ruleE rl f.2.2.2.2.2.2.2.1).1.2.1.1), .slice ((ruleE rl f.2.2.2.2.2.2.2.1).1.2.1.2.1.ao) ((ruleE rl f.2.2.2.2.2.2.2.1).1.2.1.2.1.l.length) ((ruleE rl f.2.2.2.2.2.2.2.1).1.2.1.2.1.cap), .int .i64 ((ruleE rl f.2.2.2.2.2.2.2.1).1.2.1.2.2.1), .int .i64 ((ruleE rl f.2.2.2.2.2.2.2.1).1.2.1.2.2.2.1), .int .i64 ((ruleE rl f.2.2.2.2.2.2.2.1).1.2.1.2.2.2.2.1.1), .int .i64 ((ruleE rl f.2.2.2.2.2.2.2.1).1.2.1.2.2.2.2.1.2.1), .int .i64 ((ruleE rl f.2.2.2.2.2.2.2.1).1.2.1.2.2.2.2.1.2.2), .slice ((ruleE rl f.2.2.2.2.2.2.2.1).1.2.1.2.2.2.2.2.ao) ((ruleE rl f.2.2.2.2.2.2.2.1).1.2.1.2.2.2.2.2.l.length) ((ruleE rl f.2.2.2.2.2.2.2.1).1.2.1.2.2.2.2.2.cap), .slice ((ruleE rl f.2.2.2.2.2.2.2.1).1.2.2.1.ao) ((ruleE rl f.2.2.2.2.2.2.2.1).1.2.2.1.l.length) ((ruleE rl f.2.2.2.2.2.2.2.1).1.2.2.1.cap), .int .i64 ((ruleE rl f.2.2.2.2.2.2.2.1).1.2.2.2.1), .int .i64 ((ruleE rl f.2.2.2.2.2.2.2.1).1.2.2.2.2.1), .int .i64 ((ruleE rl f.2.2.2.2.2.2.2.1).1.2.2.2.2.2.1), .int .i64 ((ruleE rl f.2.2.2.2.2.2.2.1).1.2.2.2.2.2.2.1), .slice ((ruleE rl f.2.2.2.2.2.2.2.1).1.2.2.2.2.2.2.2.ao) ((ruleE rl f.2.2.2.2.2.2.2.1).1.2.2.2.2.2.2.2.l.length) ((ruleE rl f.2.2.2.2.2.2.2.1).1.2.2.2.2.2.2.2.cap)] 76]) (I := fun q_ => LnB q_.2.2.2 q_.2.2.1 5) 5 ((a4_, c4_, n4_, L4_)) ((by first | exact hF4.mono (by omega) | exact (hF4.snoc).mono (by omega) | exact (hF4.snoc.snoc).mono (by omega) | exact (hF4.snoc.snoc.snoc).mono (by omega))) ⟨rfl, rfl, rfl, rfl, rfl, rfl, rfl, rfl, rfl, rfl, rfl, rfl, rfl, rfl, rfl, rfl, rfl, rfl, rfl, rfl, rfl, rfl, rfl, rfl, rfl, rfl, rfl, rfl, rfl, rfl, rfl, rfl, rfl, rfl, trivial⟩ rfl
  rintro ⟨a5_, c5_, n5_, L5_⟩ hF5
  try dsimp only at *
  have hFl5 := hF5.le
  refine WC.seq ?_
  refine WC.region ?_
  refine SL.pure rfl rfl rfl (PureOp.loads (vs := [.slice fao fn fcap, .slice rao rn rcap, .slice u1.ao u1.l.length u1.cap, .slice u2.ao u2.l.length u2.cap]) Try.underlying27 rfl rfl (fun _ => (RowIs.cells 1 0 4 rfl rfl)) sz27) ?_
  refine SL.pure rfl rfl rfl (PureOp.fieldAddrT 8 Try.underlying52 rfl sz3 rfl rfl) ?_
  refine SL.pure rfl rfl rfl (PureOp.load (v := .int .i64 f.2.2.2.2.2.2.2.2) Try.underlying3 rfl rfl (fun _ => (CellIs.cells 2 rfl rfl))) ?_
  refine SL.callv rfl rfl rfl rfl rfl rfl callable63 (fun w hw => rrouting_any u1 u2 fl rl rao rn rcap fao fn fcap hfn hrn w (hf.below hw.below) (hr.below hw.below) hfb hrb tl htl (sR.below hw.below) htb f.2.2.2.2.2.2.2.2) ?_
  rintro v ⟨rr, rb, rfl⟩
  refine SL.norm [_, _, _, _, _] rfl ?_
  refine SL.pure rfl rfl rfl (PureOp.move rfl) ?_
  refine SL.pure rfl rfl rfl (PureOp.extract rfl rfl) ?_
  refine SL.pure rfl rfl rfl (PureOp.extract rfl rfl) ?_
  refine SL.pure rfl rfl rfl (PureOp.assign rfl) ?_
  refine SL.nil_then ?_
  refine WC.cutx (σ := Option Addr × Nat × Nat × List Int) (fun q_ => [(0, 0, .agg #[.slice aao an acap, .slice u3.ao u3.l.length u3.cap]), (1, 0, .agg #[.slice fao fn fcap, .slice rao rn rcap, .slice u1.ao u1.l.length u1.cap, .slice u2.ao u2.l.length u2.cap]), (2, 0, .agg #[.string f.1, .string f.2.1, .string f.2.2.1, .string f.2.2.2.1, .string f.2.2.2.2.1, .bool f.2.2.2.2.2.1, .int .i64 f.2.2.2.2.2.2.1, .int .i64 f.2.2.2.2.2.2.2.1, .int .i64 f.2.2.2.2.2.2.2.2]), (3, 0, .pointer (some ⟨b1, 0, none⟩)), (4, 0, .pointer (some ⟨b2, 0, none⟩)), (5, 0, .pointer (some ⟨b3, 0, none⟩)), (6, 0, .slice none 0 0), (8, 0, .pointer (some ⟨b8, 0, none⟩)), (9, 0, .bool rb), (63, 0, .tuple #[.agg #[.int .i64 ((ruleE rl f.2.2.2.2.2.2.2.1).1.1), .int .i64 ((ruleE rl f.2.2.2.2.2.2.2.1).1.2.1.1), .slice ((ruleE rl f.2.2.2.2.2.2.2.1).1.2.1.2.1.ao) ((ruleE rl f.2.2.2.2.2.2.2.1).1.2.1.2.1.l.length) ((ruleE rl f.2.2.2.2.2.2.2.1).1.2.1.2.1.cap), .int .i64 ((ruleE rl f.2.2.2.2.2.2.2.1).1.2.1.2.2.1), .int .i64 ((ruleE rl f.2.2.2.2.2.2.2.1).1.2.1.2.2.2.1), .int .i64 ((ruleE rl f.2.2.2.2.2.2.2.1).1.2.1.2.2.2.2.1.1), .int .i64 ((ruleE rl f.2.2.2.2.2.2.2.1).1.2.1.2.2.2.2.1.2.1), .int .i64 ((ruleE rl f.2.2.2.2.2.2.2.1).1.2.1.2.2.2.2.1.2.2), .slice ((ruleE rl f.2.2.2.2.2.2.2.1).1.2.1.2.2.2.2.2.ao) ((ruleE rl f.2.2.2.2.2.2.2.1).1.2.1.2.2.2.2.2.l.length) ((ruleE rl f.2.2.2.2.2.2.2.1).1.2.1.2.2.2.2.2.cap), .slice ((ruleE rl f.2.2.2.2.2.2.2.1).1.2.2.1.ao) ((ruleE rl f.2.2.2.2.2.2.2.1).1.2.2.1.l.length) ((ruleE rl f.2.2.2.2.2.2.2.1).1.2.2.1.cap), .int .i64 ((ruleE rl f.2.2.2.2.2.2.2.1).1.2.2.2.1), .int .i64 ((ruleE rl f.2.2.2.2.2.2.2.1).1.2.2.2.2.1), .int .i64 ((ruleE rl f.2.2.2.2.2.2.2.1).1.2.2.2.2.2.1), .int .i64 ((ruleE rl f.2.2.2.2.2.2.2.1).1.2.2.2.2.2.2.1), .slice ((ruleE rl f.2.2.2.2.2.2.2.1).1.2.2.2.2.2.2.2.ao) ((ruleE rl f.2.2.2.2.2.2.2.1).1.2.2.2.2.2.2.2.l.length) ((ruleE rl f.2.2.2.2.2.2.2.1).1.2.2.2.2.2.2.2.cap)], .bool ((ruleE rl f.2.2.2.2.2.2.2.1).2)]), (64, 0, .agg #[.slice fao fn fcap, .slice rao rn rcap, .slice u1.ao u1.l.length u1.cap, .slice u2.ao u2.l.length u2.cap]), (65, 0, .pointer (some ⟨b3, 7, none⟩)), (66, 0, .int .i64 f.2.2.2.2.2.2.2.1), (67, 0, .tuple #[.agg #[.int .i64 ((ruleE rl f.2.2.2.2.2.2.2.1).1.1), .int .i64 ((ruleE rl f.2.2.2.2.2.2.2.1).1.2.1.1), .slice ((ruleE rl f.2.2.2.2.2.2.2.1).1.2.1.2.1.ao) ((ruleE rl f.2.2.2.2.2.2.2.1).1.2.1.2.1.l.length) ((ruleE rl f.2.2.2.2.2.2.2.1).1.2.1.2.1.cap), .int .i64 ((ruleE rl f.2.2.2.2.2.2.2.1).1.2.1.2.2.1), .int .i64 ((ruleE rl f.2.2.2.2.2.2.2.1).1.2.1.2.2.2.1), .int .i64 ((ruleE rl f.2.2.2.2.2.2.2.1).1.2.1.2.2.2.2.1.1), .int .i64 ((ruleE rl f.2.2.2.2.2.2.2.1).1.2.1.2.2.2.2.1.2.1), .int .i64 ((ruleE rl f.2.2.2.2.2.2.2.1).1.2.1.2.2.2.2.1.2.2), .slice ((ruleE rl f.2.2.2.2.2.2.2.1).1.2.1.2.2.2.2.2.ao) ((ruleE rl f.2.2.2.2.2.2.2.1).1.2.1.2.2.2.2.2.l.length) ((ruleE rl f.2.2.2.2.2.2.2.1).1.2.1.2.2.2.2.2.cap), .slice ((ruleE rl f.2.2.2.2.2.2.2.1).1.2.2.1.ao) ((ruleE rl f.2.2.2.2.2.2.2.1).1.2.2.1.l.length) ((ruleE rl f.2.2.2.2.2.2.2.1).1.2.2.1.cap), .int .i64 ((ruleE rl f.2.2.2.2.2.2.2.1).1.2.2.2.1), .int .i64 ((ruleE rl f.2.2.2.2.2.2.2.1).1.2.2.2.2.1), .int .i64 ((ruleE rl f.2.2.2.2.2.2.2.1).1.2.2.2.2.2.1), .int .i64 ((ruleE rl f.2.2.2.2.2.2.2.1).1.2.2.2.2.2.2.1), .slice ((ruleE rl f.2.2.2.2.2.2.2.1).1.2.2.2.2.2.2.2.ao) ((ruleE rl f.2.2.2.2.2.2.2.1).1.2.2.2.2.2.2.2.l.length) ((ruleE rl f.2.2.2.2.2.2.2.1).1.2.2.2.2.2.2.2.cap)], .bool ((ruleE rl f.2.2.2.2.2.2.2.1).2)]), (68, 0, .agg #[.int .i64 ((ruleE rl f.2.2.2.2.2.2.2.1).1.1), .int .i64 ((ruleE rl f.2.2.2.2.2.2.2.1).1.2.1.1), .slice ((ruleE rl f.2.2.2.2.2.2.2.1).1.2.1.2.1.ao) ((ruleE rl f.2.2.2.2.2.2.2.1).1.2.1.2.1.l.length) ((ruleE rl f.2.2.2.2.2.2.2.1).1.2.1.2.1.cap), .int .i64 ((ruleE rl f.2.2.2.2.2.2.2.1).1.2.1.2.2.1), .int .i64 ((ruleE rl f.2.2.2.2.2.2.2.1).1.2.1.2.2.2.1), .int .i64 ((ruleE rl f.2.2.2.2.2.2.2.1).1.2.1.2.2.2.2.1.1), .int .i64 ((ruleE rl f.2.2.2.2.2.2.2.1).1.2.1.2.2.2.2.1.2.1), .int .i64 ((ruleE rl f.2.2.2.2.2.2.2.1).1.2.1.2.2.2.2.1.2.2), .slice ((ruleE rl f.2.2.2.2.2.2.2.1).1.2.1.2.2.2.2.2.ao) ((ruleE rl f.2.2.2.2.2.2.2.1).1.2.1.2.2.2.2.2.l.length) ((ruleE rl f.2.2.2.2.2.2.2.1).1.2.1.2.2.2.2.2.cap), .slice ((ruleE rl f.2.2.2.2.2.2.2.1).1.2.2.1.ao) ((ruleE rl f.2.2.2.2.2.2.2.1).1.2.2.1.l.length) ((ruleE rl f.2.2.2.2.2.2.2.1).1.2.2.1.cap), .int .i64 ((ruleE rl f.2.2.2.2.2.2.2.1).1.2.2.2.1), .int .i64 ((ruleE rl f.2.2.2.2.2.2.2.1).1.2.2.2.2.1), .int .i64 ((ruleE rl f.2.2.2.2.2.2.2.1).1.2.2.2.2.2.1), .int .i64 ((ruleE rl f.2.2.2.2.2.2.2.1).1.2.2.2.2.2.2.1), .slice ((ruleE rl f.2.2.2.2.2.2.2.1).1.2.2.2.2.2.2.2.ao) ((ruleE rl f.2.2.2.2.2.2.2.1).1.2.2.2.2.2.2.2.l.length) ((ruleE rl f.2.2.2.2.2.2.2.1).1.2.2.2.2.2.2.2.cap)]), (69, 0, .bool ((ruleE rl f.2.2.2.2.2.2.2.1).2)), (75, 0, .tuple #[rr, .bool rb]), (76, 0, .agg #[.slice fao fn fcap, .slice rao rn rcap, .slice u1.ao u1.l.length u1.cap, .slice u2.ao u2.l.length u2.cap]), (77, 0, .pointer (some ⟨b3, 8, none⟩)), (78, 0, .int .i64 f.2.2.2.2.2.2.2.2), (79, 0, .tuple #[rr, .bool rb]), (81, 0, .bool rb), (7, 0, .slice q_.1 q_.2.2.1 q_.2.1)]) (fun q_ => [Item.cells b1 [.slice aao an acap, .slice u3.ao u3.l.length u3.cap] 39, Item.cells b2 [.slice fao fn fcap, .slice rao rn rcap, .slice u1.ao u1.l.length u1.cap, .slice u2.ao u2.l.length u2.cap] 27, Item.cells b3 [.string f.1, .string f.2.1, .string f.2.2.1, .string f.2.2.2.1, .string f.2.2.2.2.1, .bool f.2.2.2.2.2.1, .int .i64 f.2.2.2.2.2.2.1, .int .i64 f.2.2.2.2.2.2.2.1, .int .i64 f.2.2.2.2.2.2.2.2] 52, Item.own w0.heap.size q_.1 q_.2.2.1 q_.2.1 31 1 (cellsOf encI (q_.2.2.2)), Item.cells b8 [.int .i64 ((ruleE rl f.2.2.2.2.2.2.2.1).1.1), .int .i64 ((ruleE rl f.2.2.2.2.2.2.2.1).1.2.1.1), .slice ((ruleE rl f.2.2.2.2.2.2.2.1).1.2.1.2.1.ao) ((ruleE rl f.2.2.2.2.2.2.2.1).1.2.1.2.1.l.length) ((ruleE rl f.2.2.2.2.2.2.2.1).1.2.1.2.1.cap), .int .i64 ((ruleE rl f.2.2.2.2.2.2.2.1).1.2.1.2.2.1), .int .i64 ((ruleE rl f.2.2.2.2.2.2.2.1).1.2.1.2.2.2.1), .int .i64 ((ruleE rl f.2.2.2.2.2.2.2.1).1.2.1.2.2.2.2.1.1), .int .i64 ((ruleE rl f.2.2.2.2.2.2.2.1).1.2.1.2.2.2.2.1.2.1), .int .i64 ((ruleE rl f.2.2.2.2.2.2.2.1).1.2.1.2.2.2.2.1.2.2), .slice ((ruleE rl f.2.2.2.2.2.2.2.1).1.2.1.2.2.2.2.2.ao) ((ruleE rl f.2.2.2.2.2.2.2.1).1.2.1.2.2.2.2.2.l.length) ((ruleE rl f.2.2.2.2.2.2.2.1).1.2.1.2.2.2.2.2.cap), .slice ((ruleE rl f.2.2.2.2.2.2.2.1).1.2.2.1.ao) ((ruleE rl f.2.2.2.2.2.2.2.1).1.2.2.1.l.length) ((ruleE rl f.2.2.2.2.2.2.2.1).1.2.2.1.cap), .int .i64 ((ruleE rl f.2.2.2.2.2.2.2.1).1.2.2.2.1), .int .i64 ((ruleE rl f.2.2.2.2.2.2.2.1).1.2.2.2.2.1), .int .i64 ((ruleE rl f.2.2.2.2.2.2.2.1).1.2.2.2.2.2.1), .int .i64 ((ruleE rl f.2.2.2.2.2.2.2.1).1.2.2.2.2.2.2.1), .slice ((ruleE rl f.2.2.2.2.2.2.2.1).1.2.2.2.2.2.2.2.ao) ((ruleE rl f.2.2.2.2.2.2.2.1).1.2.2.2.2.2.2.2.l.length) ((ruleE rl f.2.2.2.2.2.2.2.1).1.2.2.2.2.2.2.2.cap)] 76]) (fun q_ => LnB q_.2.2.2 q_.2.2.1 6) ?_ ?_
  · skip
    refine WC.seq ?_
    refine WC.region ?_
    refine SL.pure rfl rfl rfl (PureOp.fieldAddrT 8 Try.underlying52 rfl sz3 rfl rfl) ?_
    refine SL.pure rfl rfl rfl (PureOp.load (v := .int .i64 f.2.2.2.2.2.2.2.2) Try.underlying3 rfl rfl (fun _ => (CellIs.cells 2 rfl rfl))) ?_
    refine SL.pure rfl rfl rfl (PureOp.neq rfl rfl) ?_
    refine SL.pure rfl rfl rfl (PureOp.move rfl) ?_
    refine SL.newg 85 true rfl ?_
    refine SL.gpure (c := 1) rfl rfl rfl rfl rfl rfl rfl (PureOp.move rfl) ?_
    refine SL.gpure (c := 1) rfl rfl rfl rfl rfl rfl rfl (PureOp.not rfl) ?_
    refine SL.pure rfl rfl rfl (PureOp.and_ rfl rfl rfl rfl) ?_
    refine SL.nil_then ?_
    refine WC.cond rfl (fun h6 => ?_) (fun h6 => ?_)
    · try simp only [Bool.and_eq_true, Bool.or_eq_true, Bool.not_eq_true', Bool.not_eq_false', Bool.and_eq_false_iff, Bool.or_eq_false_iff, decide_eq_true_eq, decide_eq_false_iff_not, Int.not_lt, Int.not_le, ne_eq, Decidable.not_not] at h6
      refine WC.region ?_
      refine SL.pure rfl rfl rfl (PureOp.move rfl) ?_
      refine SL.buildSlice rfl rfl Try.underlying89 elem31 rfl rfl rfl rfl (fun b10 hb10 => ?_)
      refine SL.norm [_, _, _, _, _, _] rfl ?_
      refine SL.append 3 rfl rfl Try.underlying89 elem31 rfl rfl rfl rfl (SrcIs.own 5 rfl) (by rfl) (by omega) (by omega) (fun ao6_ cap6_ => ?_)
      refine SL.itemxs 3 rfl (show _ = cellsOf encI (L5_ ++ [(21 : Int)]) from by rw [cellsOf_append (l := L5_), cellsOf_one]; rfl) ?_
      refine SL.norm [_, _, _, _, _, _] rfl ?_
      refine SL.pure rfl rfl rfl (PureOp.assign rfl) ?_
      refine SL.nil ?_
      refine QX.cutx (σ := Option Addr × Nat × Nat × List Int) (E' := fun q_ => [(0, 0, .agg #[.slice aao an acap, .slice u3.ao u3.l.length u3.cap]), (1, 0, .agg #[.slice fao fn fcap, .slice rao rn rcap, .slice u1.ao u1.l.length u1.cap, .slice u2.ao u2.l.length u2.cap]), (2, 0, .agg #[.string f.1, .string f.2.1, .string f.2.2.1, .string f.2.2.2.1, .string f.2.2.2.2.1, .bool f.2.2.2.2.2.1, .int .i64 f.2.2.2.2.2.2.1, .int .i64 f.2.2.2.2.2.2.2.1, .int .i64 f.2.2.2.2.2.2.2.2]), (3, 0, .pointer (some ⟨b1, 0, none⟩)), (4, 0, .pointer (some ⟨b2, 0, none⟩)), (5, 0, .pointer (some ⟨b3, 0, none⟩)), (6, 0, .slice none 0 0), (8, 0, .pointer (some ⟨b8, 0, none⟩)), (9, 0, .bool rb), (63, 0, .tuple #[.agg #[.int .i64 ((ruleE rl f.2.2.2.2.2.2.2.1).1.1), .int .i64 ((ruleE rl f.2.2.2.2.2.2.2.1).1.2.1.1), .slice ((ruleE rl f.2.2.2.2.2.2.2.1).1.2.1.2.1.ao) ((ruleE rl f.2.2.2.2.2.2.2.1).1.2.1.2.1.l.length) ((ruleE rl f.2.2.2.2.2.2.2.1).1.2.1.2.1.cap), .int .i64 ((ruleE rl f.2.2.2.2.2.2.2.1).1.2.1.2.2.1), .int .i64 ((ruleE rl f.2.2.2.2.2.2.2.1).1.2.1.2.2.2.1), .int .i64 ((ruleE rl f.2.2.2.2.2.2.2.1).1.2.1.2.2.2.2.1.1), .int .i64 ((ruleE rl f.2.2.2.2.2.2.2.1).1.2.1.2.2.2.2.1.2.1), .int .i64 ((ruleE rl f.2.2.2.2.2.2.2.1).1.2.1.2.2.2.2.1.2.2), .slice ((ruleE rl f.2.2.2.2.2.2.2.1).1.2.1.2.2.2.2.2.ao) ((ruleE rl f.2.2.2.2.2.2.2.1).1.2.1.2.2.2.2.2.l.length) ((ruleE rl f.2.2.2.2.2.2.2.1).1.2.1.2.2.2.2.2.cap), .slice ((ruleE rl f.2.2.2.2.2.2.2.1).1.2.2.1.ao) ((ruleE rl f.2.2.2.2.2.2.2.1).1.2.2.1.l.length) ((ruleE rl f.2.2.2.2.2.2.2.1).1.2.2.1.cap), .int .i64 ((ruleE rl f.2.2.2.2.2.2.2.1).1.2.2.2.1), .int .i64 ((ruleE rl f.2.2.2.2.2.2.2.1).1.2.2.2.2.1), .int .i64 ((ruleE rl f.2.2.2.2.2.2.2.1).1.2.2.2.2.2.1), .int .i64 ((ruleE rl f.2.2.2.2.2.2.2.1).1.2.2.2.2.2.2.1), .slice ((ruleE rl f.2.2.2.2.2.2.2.1).1.2.2.2.2.2.2.2.ao) ((ruleE rl f.2.2.2.2.2.2.2.1).1.2.2.2.2.2.2.2.l.length) ((ruleE rl f.2.2.2.2.2.2.2.1).1.2.2.2.2.2.2.2.cap)], .bool ((ruleE rl f.2.2.2.2.2.2.2.1).2)]), (64, 0, .agg #[.slice fao fn fcap, .slice rao rn rcap, .slice u1.ao u1.l.length u1.cap, .slice u2.ao u2.l.length u2.cap]), (65, 0, .pointer (some ⟨b3, 7, none⟩)), (66, 0, .int .i64 f.2.2.2.2.2.2.2.1), (67, 0, .tuple #[.agg #[.int .i64 ((ruleE rl f.2.2.2.2.2.2.2.1).1.1), .int .i64 ((ruleE rl f.2.2.2.2.2.2.2.1).1.2.1.1), .slice ((ruleE rl f.2.2.2.2.2.2.2.1).1.2.1.2.1.ao) ((ruleE rl f.2.2.2.2.2.2.2.1).1.2.1.2.1.l.length) ((ruleE rl f.2.2.2.2.2.2.2.1).1.2.1.2.1.cap), .int .i64 ((ruleE rl f.2.2.2.2.2.2.2.1).1.2.1.2.2.1), .int .i64 ((ruleE rl f.2.2.2.2.2.2.2.1).1.2.1.2.2.2.1), .int .i64 ((ruleE rl f.2.2.2.2.2.2.2.1).1.2.1.2.2.2.2.1.1), .int .i64 ((ruleE rl f.2.2.2.2.2.2.2.1).1.2.1.2.2.2.2.1.2.1), .int .i64 ((ruleE rl f.2.2.2.2.2.2.2.1).1.2.1.2.2.2.2.1.2.2), .slice ((ruleE rl f.2.2.2.2.2.2.2.1).1.2.1.2.2.2.2.2.ao) ((ruleE rl f.2.2.2.2.2.2.2.1).1.2.1.2.2.2.2.2.l.length) ((ruleE rl f.2.2.2.2.2.2.2.1).1.2.1.2.2.2.2.2.cap), .slice ((ruleE rl f.2.2.2.2.2.2.2.1).1.2.2.1.ao) ((ruleE rl f.2.2.2.2.2.2.2.1).1.2.2.1.l.length) ((ruleE rl f.2.2.2.2.2.2.2.1).1.2.2.1.cap), .int .i64 ((ruleE rl f.2.2.2.2.2.2.2.1).1.2.2.2.1), .int .i64 ((ruleE rl f.2.2.2.2.2.2.2.1).1.2.2.2.2.1), .int .i64 ((ruleE rl f.2.2.2.2.2.2.2.1).1.2.2.2.2.2.1), .int .i64 ((ruleE rl f.2.2.2.2.2.2.2.1).1.2.2.2.2.2.2.1), .slice ((ruleE rl f.2.2.2.2.2.2.2.1).1.2.2.2.2.2.2.2.ao) ((ruleE rl f.2.2.2.2.2.2.2.1).1.2.2.2.2.2.2.2.l.length) ((ruleE rl f.2.2.2.2.2.2.2.1).1.2.2.2.2.2.2.2.cap)], .bool ((ruleE rl f.2.2.2.2.2.2.2.1).2)]), (68, 0, .agg #[.int .i64 ((ruleE rl f.2.2.2.2.2.2.2.1).1.1), .int .i64 ((ruleE rl f.2.2.2.2.2.2.2.1).1.2.1.1), .slice ((ruleE rl f.2.2.2.2.2.2.2.1).1.2.1.2.1.ao) ((ruleE rl f.2.2.2.2.2.2.2.1).1.2.1.2.1.l.length) ((ruleE rl f.2.2.2.2.2.2.2.1).1.2.1.2.1.cap), .int .i64 ((ruleE rl f.2.2.2.2.2.2.2.1).1.2.1.2.2.1), .int .i64 ((ruleE rl f.2.2.2.2.2.2.2.1).1.2.1.2.2.2.1), .int .i64 ((ruleE rl f.2.2.2.2.2.2.2.1).1.2.1.2.2.2.2.1.1), .int .i64 ((ruleE rl f.2.2.2.2.2.2.2.1).1.2.1.2.2.2.2.1.2.1), .int .i64 ((ruleE rl f.2.2.2.2.2.2.2.1).1.2.1.2.2.2.2.1.2.2), .slice ((ruleE rl f.2.2.2.2.2.2.2.1).1.2.1.2.2.2.2.2.ao) ((ruleE rl f.2.2.2.2.2.2.2.1).1.2.1.2.2.2.2.2.l.length) ((ruleE rl f.2.2.2.2.2.2.2.1).1.2.1.2.2.2.2.2.cap), .slice ((ruleE rl f.2.2.2.2.2.2.2.1).1.2.2.1.ao) ((ruleE rl f.2.2.2.2.2.2.2.1).1.2.2.1.l.length) ((ruleE rl f.2.2.2.2.2.2.2.1).1.2.2.1.cap), .int .i64 ((ruleE rl f.2.2.2.2.2.2.2.1).1.2.2.2.1), .int .i64 ((ruleE rl f.2.2.2.2.2.2.2.1).1.2.2.2.2.1), .int .i64 ((ruleE rl f.2.2.2.2.2.2.2.1).1.2.2.2.2.2.1), .int .i64 ((ruleE rl f.2.2.2.2.2.2.2.1).1.2.2.2.2.2.2.1), .slice ((ruleE rl f.2.2.2.2.2.2.2.1).1.2.2.2.2.2.2.2.ao) ((ruleE rl f.2.2.2.2.2.2.2.1).1.2.2.2.2.2.2.2.l.length) ((ruleE rl f.2.2.2.2.2.2.2.1).1.2.2.2.2.2.2.2.cap)]), (69, 0, .bool ((ruleE rl f.2.2.2.2.2.2.2.1).2)), (75, 0, .tuple #[rr, .bool rb]), (76, 0, .agg #[.slice fao fn fcap, .slice rao rn rcap, .slice u1.ao u1.l.length u1.cap, .slice u2.ao u2.l.length u2.cap]), (77, 0, .pointer (some ⟨b3, 8, none⟩)), (78, 0, .int .i64 f.2.2.2.2.2.2.2.2), (79, 0, .tuple #[rr, .bool rb]), (81, 0, .bool rb), (7, 0, .slice q_.1 q_.2.2.1 q_.2.1)]) (H' := fun q_ => [Item.cells b1 [.slice aao an acap, .slice u3.ao u3.l.length u3.cap] 39, Item.cells b2 [.slice fao fn fcap, .slice rao rn rcap, .slice u1.ao u1.l.length u1.cap, .slice u2.ao u2.l.length u2.cap] 27, Item.cells b3 [.string f.1, .string f.2.1, .string f.2.2.1, .string f.2.2.2.1, .string f.2.2.2.2.1, .bool f.2.2.2.2.2.1, .int .i64 f.2.2.2.2.2.2.1, .int .i64 f.2.2.2.2.2.2.2.1, .int .i64 f.2.2.2.2.2.2.2.2] 52, Item.own w0.heap.size q_.1 q_.2.2.1 q_.2.1 31 1 (cellsOf encI (q_.2.2.2)), Item.cells b8 [.int .i64 ((ruleE rl f.2.2.2.2.2.2.2.1).1.1), .int .i64 ((ruleE rl f.2.2.2.2.2.2.2.1).1.2.1.1), .slice ((ruleE rl f.2.2.2.2.2.2.2.1).1.2.1.2.1.ao) ((ruleE rl f.2.2.2.2.2.2.2.1).1.2.1.2.1.l.length) ((ruleE rl f.2.2.2.2.2.2.2.1).1.2.1.2.1.cap), .int .i64 ((ruleE rl f.2.2.2.2.2.2.2.1).1.2.1.2.2.1), .int .i64 ((ruleE rl f.2.2.2.2.2.2.2.1).1.2.1.2.2.2.1), .int .i64 ((ruleE rl f.2.2.2.2.2.2.2.1).1.2.1.2.2.2.2.1.1), .int .i64 ((ruleE rl f.2.2.2.2.2.2.2.1).1.2.1.2.2.2.2.1.2.1), .int .i64 ((ruleE rl f.2.2.2.2.2.2.2.1).1.2.1.2.2.2.2.1.2.2), .slice ((ruleE rl f.2.2.2.2.2.2.2.1).1.2.1.2.2.2.2.2.ao) ((ruleE rl f.2.2.2.2.2.2.2.1).1.2.1.2.2.2.2.2.l.length) ((ruleE rl f.2.2.2.2.2.2.2.1).1.2.1.2.2.2.2.2.cap), .slice ((ruleE rl f.2.2.2.2.2.2.2.1).1.2.2.1.ao) ((ruleE rl f.2.2.2.2.2.2.2.1).1.2.2.1.l.length) ((ruleE rl f.2.2.2.2.2.2.2.1).1.2.2.1.cap), .int .i64 ((ruleE rl f.2.2.2.2.2.2.2.1).1.2.2.2.1), .int .i64 ((ruleE rl f.2.2.2.2.2.2.2.1).1.2.2.2.2.1), .int .i64 ((ruleE rl f.2.2.2.2.2.2.2.1).1.2.2.2.2.2.1), .int .i64 ((ruleE rl f.2.2.2.2.2.2.2.1).1.2.2.2.2.2.2.1), .slice ((ruleE rl f.2.2.2.2.2.2.2.1).1.2.2.2.2.2.2.2.ao) ((ruleE rl f.2.2.2.2.2.2.2.1).1.2.2.2.2.2.2.2.l.length) ((ruleE rl f.2.2.2.2.2.2.2.1).1.2.2.2.2.2.2.2.cap)] 76]) (I := fun q_ => LnB q_.2.2.2 q_.2.2.1 6) 5 ((ao6_, cap6_, n5_ + 1, L5_ ++ [(21 : Int)])) ((by first | exact hF5.mono (by omega) | exact (hF5.snoc).mono (by omega) | exact (hF5.snoc.snoc).mono (by omega) | exact (hF5.snoc.snoc.snoc).mono (by omega))) ⟨rfl, rfl, rfl, rfl, rfl, rfl, rfl, rfl, rfl, rfl, rfl, rfl, rfl, rfl, rfl, rfl, rfl, rfl, rfl, rfl, rfl, rfl, rfl, rfl, rfl, rfl, rfl, rfl, rfl, rfl, rfl, rfl, rfl, rfl, rfl, rfl, rfl, rfl, rfl, rfl, rfl, rfl, rfl, rfl, rfl, rfl, trivial⟩ rfl
    · try simp only [Bool.and_eq_true, Bool.or_eq_true, Bool.not_eq_true', Bool.not_eq_false', Bool.and_eq_false_iff, Bool.or_eq_false_iff, decide_eq_true_eq, decide_eq_false_iff_not, Int.not_lt, Int.not_le, ne_eq, Decidable.not_not] at h6
      refine WC.skip ?_
      refine QX.cutx (σ := Option Addr × Nat × Nat × List Int) (E' := fun q_ => [(0, 0, .agg #[.slice aao an acap, .slice u3.ao u3.l.length u3.cap]), (1, 0, .agg #[.slice fao fn fcap, .slice rao rn rcap, .slice u1.ao u1.l.length u1.cap, .slice u2.ao u2.l.length u2.cap]), (2, 0, .agg #[.string f.1, .string f.2.1, .string f.2.2.1, .string f.2.2.2.1, .string f.2.2.2.2.1, .bool f.2.2.2.2.2.1, .int .i64 f.2.2.2.2.2.2.1, .int .i64 f.2.2.2.2.2.2.2.1, .int .i64 f.2.2.2.2.2.2.2.2]), (3, 0, .pointer (some ⟨b1, 0, none⟩)), (4, 0, .pointer (some ⟨b2, 0, none⟩)), (5, 0, .pointer (some ⟨b3, 0, none⟩)), (6, 0, .slice none 0 0), (8, 0, .pointer (some ⟨b8, 0, none⟩)), (9, 0, .bool rb), (63, 0, .tuple #[.agg #[.int .i64 ((ruleE rl f.2.2.2.2.2.2.2.1).1.1), .int .i64 ((ruleE rl f.2.2.2.2.2.2.2.1).1.2.1.1), .slice ((ruleE rl f.2.2.2.2.2.2.2.1).1.2.1.2.1.ao) ((ruleE rl f.2.2.2.2.2.2.2.1).1.2.1.2.1.l.length) ((ruleE rl f.2.2.2.2.2.2.2.1).1.2.1.2.1.cap), .int .i64 ((ruleE rl f.2.2.2.2.2.2.2.1).1.2.1.2.2.1), .int .i64 ((ruleE rl f.2.2.2.2.2.2.2.1).1.2.1.2.2.2.1), .int .i64 ((ruleE rl f.2.2.2.2.2.2.2.1).1.2.1.2.2.2.2.1.1), .int .i64 ((ruleE rl f.2.2.2.2.2.2.2.1).1.2.1.2.2.2.2.1.2.1), .int .i64 ((ruleE rl f.2.2.2.2.2.2.2.1).1.2.1.2.2.2.2.1.2.2), .slice ((ruleE rl f.2.2.2.2.2.2.2.1).1.2.1.2.2.2.2.2.ao) ((ruleE rl f.2.2.2.2.2.2.2.1).1.2.1.2.2.2.2.2.l.length) ((ruleE rl f.2.2.2.2.2.2.2.1).1.2.1.2.2.2.2.2.cap), .slice ((ruleE rl f.2.2.2.2.2.2.2.1).1.2.2.1.ao) ((ruleE rl f.2.2.2.2.2.2.2.1).1.2.2.1.l.length) ((ruleE rl f.2.2.2.2.2.2.2.1).1.2.2.1.cap), .int .i64 ((ruleE rl f.2.2.2.2.2.2.2.1).1.2.2.2.1), .int .i64 ((ruleE rl f.2.2.2.2.2.2.2.1).1.2.2.2.2.1), .int .i64 ((ruleE rl f.2.2.2.2.2.2.2.1).1.2.2.2.2.2.1), .int .i64 ((ruleE rl f.2.2.2.2.2.2.2.1).1.2.2.2.2.2.2.1), .slice ((ruleE rl f.2.2.2.2.2.2.2.1).1.2.2.2.2.2.2.2.ao) ((ruleE rl f.2.2.2.2.2.2.2.1).1.2.2.2.2.2.2.2.l.length) ((ruleE rl f.2.2.2.2.2.2.2.1).1.2.2.2.2.2.2.2.cap)], .bool ((ruleE rl f.2.2.2.2.2.2.2.1).2)]), (64, 0, .agg #[.slice fao fn fcap, .slice rao rn rcap, .slice u1.ao u1.l.length u1.cap, .slice u2.ao u2.l.length u2.cap]), (65, 0, .pointer (some ⟨b3, 7, none⟩)), (66, 0, .int .i64 f.2.2.2.2.2.2.2.1), (67, 0, .tuple #[.agg #[.int .i64 ((ruleE rl f.2.2.2.2.2.2.2.1).1.1), .int .i64 ((ruleE rl f.2.2.2.2.2.2.2.1).1.2.1.1), .slice ((ruleE rl f.2.2.2.2.2.2.2.1).1.2.1.2.1.ao) ((ruleE rl f.2.2.2.2.2.2.2.1).1.2.1.2.1.l.length) ((ruleE rl f.2.2.2.2.2.2.2.1).1.2.1.2.1.cap), .int .i64 ((ruleE rl f.2.2.2.2.2.2.2.1).1.2.1.2.2.1), .int .i64 ((ruleE rl f.2.2.2.2.2.2.2.1).1.2.1.2.2.2.1), .int .i64 ((ruleE rl f.2.2.2.2.2.2.2.1).1.2.1.2.2.2.2.1.1), .int .i64 ((ruleE rl f.2.2.2.2.2.2.2.1).1.2.1.2.2.2.2.1.2.1), .int .i64 ((ruleE rl f.2.2.2.2.2.2.2.1).1.2.1.2.2.2.2.1.2.2), .slice ((ruleE rl f.2.2.2.2.2.2.2.1).1.2.1.2.2.2.2.2.ao) ((ruleE rl f.2.2.2.2.2.2.2.1).1.2.1.2.2.2.2.2.l.length) ((ruleE rl f.2.2.2.2.2.2.2.1).1.2.1.2.2.2.2.2.cap), .slice ((ruleE rl f.2.2.2.2.2.2.2.1).1.2.2.1.ao) ((ruleE rl f.2.2.2.2.2.2.2.1).1.2.2.1.l.length) ((ruleE rl f.2.2.2.2.2.2.2.1).1.2.2.1.cap), .int .i64 ((ruleE rl f.2.2.2.2.2.2.2.1).1.2.2.2.1), .int .i64 ((ruleE rl f.2.2.2.2.2.2.2.1).1.2.2.2.2.1), .int .i64 ((ruleE rl f.2.2.2.2.2.2.2.1).1.2.2.2.2.2.1), .int .i64 ((ruleE rl f.2.2.2.2.2.2.2.1).1.2.2.2.2.2.2.1), .slice ((ruleE rl f.2.2.2.2.2.2.2.1).1.2.2.2.2.2.2.2.ao) ((ruleE rl f.2.2.2.2.2.2.2.1).1.2.2.2.2.2.2.2.l.length) ((ruleE rl f.2.2.2.2.2.2.2.1).1.2.2.2.2.2.2.2.cap)], .bool ((ruleE rl f.2.2.2.2.2.2.2.1).2)]), (68, 0, .agg #[.int .i64 ((ruleE rl f.2.2.2.2.2.2.2.1).1.1), .int .i64 ((ruleE rl f.2.2.2.2.2.2.2.1).1.2.1.1), .slice ((ruleE rl f.2.2.2.2.2.2.2.1).1.2.1.2.1.ao) ((ruleE rl f.2.2.2.2.2.2.2.1).1.2.1.2.1.l.length) ((ruleE rl f.2.2.2.2.2.2.2.1).1.2.1.2.1.cap), .int .i64 ((ruleE rl f.2.2.2.2.2.2.2.1).1.2.1.2.2.1), .int .i64 ((ruleE rl f.2.2.2.2.2.2.2.1).1.2.1.2.2.2.1), .int .i64 ((ruleE rl f.2.2.2.2.2.2.2.1).1.2.1.2.2.2.2.1.1), .int .i64 ((ruleE rl f.2.2.2.2.2.2.2.1).1.2.1.2.2.2.2.1.2.1), .int .i64 ((ruleE rl f.2.2.2.2.2.2.2.1).1.2.1.2.2.2.2.1.2.2), .slice ((ruleE rl f.2.2.2.2.2.2.2.1).1.2.1.2.2.2.2.2.ao) ((ruleE rl f.2.2.2.2.2.2.2.1).1.2.1.2.2.2.2.2.l.length) ((ruleE rl f.2.2.2.2.2.2.2.1).1.2.1.2.2.2.2.2.cap), .slice ((ruleE rl f.2.2.2.2.2.2.2.1).1.2.2.1.ao) ((ruleE rl f.2.2.2.2.2.2.2.1).1.2.2.1.l.length) ((ruleE rl f.2.2.2.2.2.2.2.1).1.2.2.1.cap), .int .i64 ((ruleE rl f.2.2.2.2.2.2.2.1).1.2.2.2.1), .int .i64 ((ruleE rl f.2.2.2.2.2.2.2.1).1.2.2.2.2.1), .int .i64 ((ruleE rl f.2.2.2.2.2.2.2.1).1.2.2.2.2.2.1), .int .i64 ((ruleE rl f.2.2.2.2.2.2.2.1).1.2.2.2.2.2.2.1), .slice ((ruleE rl f.2.2.2.2.2.2.2.1).1.2.2.2.2.2.2.2.ao) ((ruleE rl f.2.2.2.2.2.2.2.1).1.2.2.2.2.2.2.2.l.length) ((ruleE rl f.2.2.2.2.2.2.2.1).1.2.2.2.2.2.2.2.cap)]), (69, 0, .bool ((ruleE rl f.2.2.2.2.2.2.2.1).2)), (75, 0, .tuple #[rr, .bool rb]), (76, 0, .agg #[.slice fao fn fcap, .slice rao rn rcap, .slice u1.ao u1.l.length u1.cap, .slice u2.ao u2.l.length u2.cap]), (77, 0, .pointer (some ⟨b3, 8, none⟩)), (78, 0, .int .i64 f.2.2.2.2.2.2.2.2), (79, 0, .tuple #[rr, .bool rb]), (81, 0, .bool rb), (7, 0, .slice q_.1 q_.2.2.1 q_.2.1)]) (H' := fun q_ => [Item.cells b1 [.slice aao an acap, .slice u3.ao u3.l.length u3.cap] 39, Item.cells b2 [.slice fao fn fcap, .slice rao rn rcap, .slice u1.ao u1.l.length u1.cap, .slice u2.ao u2.l.length u2.cap] 27, Item.cells b3 [.string f.1, .string f.2.1, .string f.2.2.1, .string f.2.2.2.1, .string f.2.2.2.2.1, .bool f.2.2.2.2.2.1, .int .i64 f.2.2.2.2.2.2.1, .int .i64 f.2.2.2.2.2.2.2.1, .int .i64 f.2.2.2.2.2.2.2.2] 52, Item.own w0.heap.size q_.1 q_.2.2.1 q_.2.1 31 1 (cellsOf encI (q_.2.2.2)), Item.cells b8 [.int .i64 ((ruleE rl f.2.2.2.2.2.2.2.1).1.1), .int .i64 ((ruleE rl f.2.2.2.2.2.2.2.1).1.2.1.1), .slice ((ruleE rl f.2.2.2.2.2.2.2.1).1.2.1.2.1.ao) ((ruleE rl f.2.2.2.2.2.2.2.1).1.2.1.2.1.l.length) ((ruleE rl f.2.2.2.2.2.2.2.1).1.2.1.2.1.cap), .int .i64 ((ruleE rl f.2.2.2.2.2.2.2.1).1.2.1.2.2.1), .int .i64 ((ruleE rl f.2.2.2.2.2.2.2.1).1.2.1.2.2.2.1), .int .i64 ((ruleE rl f.2.2.2.2.2.2.2.1).1.2.1.2.2.2.2.1.1), .int .i64 ((ruleE rl f.2.2.2.2.2.2.2.1).1.2.1.2.2.2.2.1.2.1), .int .i64 ((ruleE rl f.2.2.2.2.2.2.2.1).1.2.1.2.2.2.2.1.2.2), .slice ((ruleE rl f.2.2.2.2.2.2.2.1).1.2.1.2.2.2.2.2.ao) ((ruleE rl f.2.2.2.2.2.2.2.1).1.2.1.2.2.2.2.2.l.length) ((ruleE rl f.2.2.2.2.2.2.2.1).1.2.1.2.2.2.2.2.cap), .slice ((ruleE rl f.2.2.2.2.2.2.2.1).1.2.2.1.ao) ((ruleE rl f.2.2.2.2.2.2.2.1).1.2.2.1.l.length) ((ruleE rl f.2.2.2.2.2.2.2.1).1.2.2.1.cap), .int .i64 ((ruleE rl f.2.2.2.2.2.2.2.1).1.2.2.2.1), .int .i64 ((ruleE rl f.2.2.2.2.2.2.2.1).1.2.2.2.2.1), .int .i64 ((ruleE rl f.2.2.2.2.2.2.2.1).1.2.2.2.2.2.1), .int .i64 ((ruleE rl f.2.2.2.2.2.2.2.1).1.2.2.2.2.2.2.1), .slice ((ruleE rl f.2.2.2.2.2.2.2.1).1.2.2.2.2.2.2.2.ao) ((ruleE rl f.2.2.2.2.2.2.2.1).1.2.2.2.2.2.2.2.l.length) ((ruleE rl f.2.2.2.2.2.2.2.1).1.2.2.2.2.2.2.2.cap)] 76]) (I := fun q_ => LnB q_.2.2.2 q_.2.2.1 6) 5 ((a5_, c5_, n5_, L5_)) ((by first | exact hF5.mono (by omega) | exact (hF5.snoc).mono (by omega) | exact (hF5.snoc.snoc).mono (by omega) | exact (hF5.snoc.snoc.snoc).mono (by omega))) ⟨rfl, rfl, rfl, rfl, rfl, rfl, rfl, rfl, rfl, rfl, rfl, rfl, rfl, rfl, rfl, rfl, rfl, rfl, rfl, rfl, rfl, rfl, rfl, rfl, rfl, rfl, rfl, rfl, rfl, rfl, rfl, rfl, rfl, rfl, rfl, rfl, rfl, rfl, rfl, rfl, rfl, rfl, rfl, rfl, rfl, rfl, trivial⟩ rfl
  rintro ⟨a6_, c6_, n6_, L6_⟩ hF6
  try dsimp only at *
  have hFl6 := hF6.le
  refine WC.seq ?_
  refine WC.region ?_
  refine SL.pure rfl rfl rfl (PureOp.move rfl) ?_
  refine SL.pure rfl rfl rfl (PureOp.assign rfl) ?_
  refine SL.nil_then ?_
  refine WC.ret ?_
  refine QX.ret1 rfl rfl ?_
  intro w hw
  exact ⟨_, _, _, _, rfl, hF6, hw.mem (i := 3) rfl⟩

end Go.Proofs.Ytblmafknmeicfaa
