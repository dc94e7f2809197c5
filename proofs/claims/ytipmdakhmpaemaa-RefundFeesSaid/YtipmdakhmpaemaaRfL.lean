import Derived.Test.YtipmdakhmpaemaaRfK
namespace Go.Proofs.Ytipmdakhmpaemaa
open Go Go.RowKit Eng
set_option linter.unusedVariables false
set_option linter.unusedSimpArgs false

set_option maxHeartbeats 4000000 in
set_option maxRecDepth 100000 in
theorem fee_ok (u1 u2 : SliceV Unit) (fl : List Fa) (rl : List Ru) (fao rao : Option Addr) (fn fcap rn rcap : Nat) (hfn : fn = fl.length) (hrn : rn = rl.length) (w0 : World) (hf : SliceIn w0 9 fao fn fcap (rowsF enc94 fl)) (hr : SliceIn w0 15 rao rn rcap (rowsF enc92 rl)) (hfb : fn ≤ 1000) (hrb : rn ≤ 1000) (u3 : SliceV Unit) (u4 : SliceV Ch) (u5 u6 : Int) (pl : List Pa) (pao : Option Addr) (pn pcap : Nat) (hpn : pn = pl.length) (hp : SliceIn w0 4 pao pn pcap (rowsF enc96 pl)) (hpb : pn ≤ 1000) : FnC Try.prog 22 [.agg #[.slice fao fn fcap, .slice rao rn rcap, .slice u1.ao u1.l.length u1.cap, .slice u2.ao u2.l.length u2.cap], .agg #[.slice pao pn pcap, .slice u3.ao u3.l.length u3.cap, .slice u4.ao u4.l.length u4.cap, .int .i64 u5, .int .i64 u6]] w0 fun v w' => v = .tuple #[.int .i64 (feeE fl rl rfee pl).1, .int .i64 (feeE fl rl rfee pl).2] := by
  refine fnc (N := 54) Try.func22 rfl rfl rfl ?_
  refine WC.seq ?_
  refine WC.region ?_
  refine SL.box rfl rfl rfl (fun b1 hb1 => ?_)
  refine SL.norm [_] rfl ?_
  refine SL.box rfl rfl rfl (fun b2 hb2 => ?_)
  refine SL.norm [_, _] rfl ?_
  refine SL.pure rfl rfl rfl (PureOp.assign rfl) ?_
  refine SL.pure rfl rfl rfl (PureOp.assign rfl) ?_
  refine SL.nil_then ?_
  refine WC.seq ?_
  refine WC.region ?_
  refine SL.pure rfl rfl rfl (PureOp.assign rfl) ?_
  refine SL.nil_then ?_
  refine WC.seq ?_
  refine WC.seq ?_
  refine WC.region ?_
  refine SL.pure rfl rfl rfl (PureOp.fieldAddrT 0 Try.underlying56 rfl sz53 rfl rfl) ?_
  refine SL.pure rfl rfl rfl (PureOp.load (v := .slice pao pn pcap) Try.underlying53 rfl rfl (fun _ => (CellIs.cells 1 rfl rfl))) ?_
  refine SL.pure rfl rfl rfl (PureOp.len rfl Try.underlying53) ?_
  refine SL.pure rfl rfl rfl (PureOp.move rfl) ?_
  refine SL.nil_then ?_
  refine WC.block ?_
  refine WC.loop (σ := Nat × Int) (fun q_ => [(0, 0, .agg #[.slice fao fn fcap, .slice rao rn rcap, .slice u1.ao u1.l.length u1.cap, .slice u2.ao u2.l.length u2.cap]), (1, 0, .agg #[.slice pao pn pcap, .slice u3.ao u3.l.length u3.cap, .slice u4.ao u4.l.length u4.cap, .int .i64 u5, .int .i64 u6]), (2, 0, .pointer (some ⟨b1, 0, none⟩)), (3, 0, .pointer (some ⟨b2, 0, none⟩)), (11, 0, .pointer (some ⟨b2, 0, none⟩)), (12, 0, .slice pao pn pcap), (13, 0, .int .i64 ((pn : Nat) : Int)), (14, 0, .int .i64 ((q_.1 : Nat) : Int)), (6, 0, .int .i64 q_.2)]) (fun q_ => [Item.cells b1 [.slice fao fn fcap, .slice rao rn rcap, .slice u1.ao u1.l.length u1.cap, .slice u2.ao u2.l.length u2.cap] 52, Item.cells b2 [.slice pao pn pcap, .slice u3.ao u3.l.length u3.cap, .slice u4.ao u4.l.length u4.cap, .int .i64 u5, .int .i64 u6] 56]) (fun q_ => q_.1 ≤ pn ∧ feeGo fl rl rfee q_.2 (pl.drop q_.1) = feeE fl rl rfee pl) (fun q_ => pn - q_.1) 2 ((0, 0)) (⟨Nat.zero_le _, rfl⟩) ⟨rfl, rfl, rfl, rfl, rfl, rfl, rfl, rfl, rfl, rfl, rfl, rfl, rfl, rfl, rfl, rfl, rfl, rfl, trivial⟩ rfl ?_
  rintro ⟨k, m⟩ ⟨hk, hs⟩
  try dsimp only at *
  refine WC.seq ?_
  refine WC.region ?_
  refine SL.pure rfl rfl rfl (PureOp.lss rfl rfl) ?_
  refine SL.nil_then ?_
  refine WC.seq ?_
  refine WC.cond rfl (fun h1 => ?_) (fun h1 => ?_)
  · try simp only [Bool.and_eq_true, Bool.or_eq_true, Bool.not_eq_true', Bool.not_eq_false', Bool.and_eq_false_iff, Bool.or_eq_false_iff, decide_eq_true_eq, decide_eq_false_iff_not, Int.not_lt, Int.not_le, ne_eq, Decidable.not_not] at h1
    refine WC.skip ?_
    refine QX.then_ ?_
    refine WC.seq ?_
    refine WC.block ?_
    refine WC.seq ?_
    refine WC.region ?_
    refine SL.pure rfl rfl rfl (PureOp.indexAddrN Try.underlying53 sz96 rfl rfl (AoOk.in_ hp) (fun _ => by omega)) ?_
    refine SL.pure rfl rfl rfl (PureOp.loads (vs := [.int .i64 ((nth pl k).1), .int .i64 ((nth pl k).2.1), .int .i64 ((nth pl k).2.2.1), .int .i64 ((nth pl k).2.2.2)]) Try.underlying96 rfl rfl (fun _ => (RowIs.in_ hp k 0 4 (by omega) (by omega))) sz96) ?_
    refine SL.alloc rfl rfl zero96 (fun b3 hb3 => ?_)
    refine SL.norm [_, _, _] rfl ?_
    refine SL.store 2 rfl rfl rfl rfl sz96 rfl rfl ?_
    refine SL.norm [_, _, _] rfl ?_
    refine SL.nil_then ?_
    refine WC.seq ?_
    refine WC.seq ?_
    refine WC.region ?_
    refine SL.pure rfl rfl rfl (PureOp.fieldAddrT 2 Try.underlying96 rfl sz3 rfl rfl) ?_
    refine SL.pure rfl rfl rfl (PureOp.load (v := .int .i64 ((nth pl k).2.2.1)) Try.underlying3 rfl rfl (fun _ => (CellIs.cells 2 rfl rfl))) ?_
    refine SL.pure rfl rfl rfl (PureOp.lss rfl rfl) ?_
    refine SL.pure rfl rfl rfl (PureOp.move rfl) ?_
    refine SL.newg 21 false rfl ?_
    refine SL.gpure (c := 1) rfl rfl rfl rfl rfl rfl rfl (PureOp.fieldAddrT 2 Try.underlying96 rfl sz3 rfl rfl) ?_
    refine SL.gpure (c := 1) rfl rfl rfl rfl rfl rfl rfl (PureOp.load (v := .int .i64 ((nth pl k).2.2.1)) Try.underlying3 rfl rfl (fun _ => (CellIs.cells 2 rfl rfl))) ?_
    refine SL.gpure (c := 1) rfl rfl rfl rfl rfl rfl rfl (PureOp.fieldAddrT 0 Try.underlying52 rfl sz47 rfl rfl) ?_
    refine SL.gpure (c := 1) rfl rfl rfl rfl rfl rfl rfl (PureOp.load (v := .slice fao fn fcap) Try.underlying47 rfl rfl (fun _ => (CellIs.cells 0 rfl rfl))) ?_
    refine SL.gpure (c := 1) rfl rfl rfl rfl rfl rfl rfl (PureOp.len rfl Try.underlying47) ?_
    refine SL.gpure (c := 1) rfl rfl rfl rfl rfl rfl rfl (PureOp.geq rfl rfl) ?_
    refine SL.pure rfl rfl rfl (PureOp.or_ rfl rfl rfl rfl) ?_
    refine SL.nil_then ?_
    refine WC.cond rfl (fun h2 => ?_) (fun h2 => ?_)
    · try simp only [Bool.and_eq_true, Bool.or_eq_true, Bool.not_eq_true', Bool.not_eq_false', Bool.and_eq_false_iff, Bool.or_eq_false_iff, decide_eq_true_eq, decide_eq_false_iff_not, Int.not_lt, Int.not_le, ne_eq, Decidable.not_not] at h2
      refine WC.seq ?_
      refine WC.region ?_
      refine SL.pure rfl rfl rfl (PureOp.assign rfl) ?_
      refine SL.pure rfl rfl rfl (PureOp.assign rfl) ?_
      refine SL.nil_then ?_
      refine WC.ret ?_
      refine QX.ret_then ?_
      refine QX.ret_in ?_
      refine QX.ret_then ?_
      refine QX.ret_then ?_
      refine QX.ret_in ?_
      refine QX.ret_then ?_
      refine QX.ret2 rfl rfl rfl ?_
      intro w hw
      rw [feeGo_drop (by omega), if_pos (by omega)] at hs
      rw [← hs]
    · try simp only [Bool.and_eq_true, Bool.or_eq_true, Bool.not_eq_true', Bool.not_eq_false', Bool.and_eq_false_iff, Bool.or_eq_false_iff, decide_eq_true_eq, decide_eq_false_iff_not, Int.not_lt, Int.not_le, ne_eq, Decidable.not_not] at h2
      refine WC.skip ?_
      refine QX.then_ ?_
      refine WC.seq ?_
      refine WC.drawH 15 [false, false, false, false, false, false, false, false, false, false, false, false, false, false, false] rfl rfl rfl ?_
      refine SD.take 0 [true, false, false, false, false, false, false, false, false, false, false, false, false, false, false] rfl (by kernel_rfl) rfl (fun _ h => h) rfl rfl rfl (PureOp.loads (vs := [.slice fao fn fcap, .slice rao rn rcap, .slice u1.ao u1.l.length u1.cap, .slice u2.ao u2.l.length u2.cap]) Try.underlying52 rfl rfl (fun _ => (RowIs.cells 0 0 4 rfl rfl)) sz52) ?_
      refine SD.take 1 [true, true, false, false, false, false, false, false, false, false, false, false, false, false, false] rfl (by kernel_rfl) rfl (fun _ h => h) rfl rfl rfl (PureOp.fieldAddrT 0 Try.underlying52 rfl sz47 rfl rfl) ?_
      refine SD.take 2 [true, true, true, false, false, false, false, false, false, false, false, false, false, false, false] rfl (by kernel_rfl) rfl (fun _ h => h) rfl rfl rfl (PureOp.load (v := .slice fao fn fcap) Try.underlying47 rfl rfl (fun _ => (CellIs.cells 0 rfl rfl))) ?_
      refine SD.take 3 [true, true, true, true, false, false, false, false, false, false, false, false, false, false, false] rfl (by kernel_rfl) rfl (fun _ h => h) rfl rfl rfl (PureOp.fieldAddrT 2 Try.underlying96 rfl sz3 rfl rfl) ?_
      refine SD.take 4 [true, true, true, true, true, false, false, false, false, false, false, false, false, false, false] rfl (by kernel_rfl) rfl (fun _ h => h) rfl rfl rfl (PureOp.load (v := .int .i64 ((nth pl k).2.2.1)) Try.underlying3 rfl rfl (fun _ => (CellIs.cells 2 rfl rfl))) ?_
      refine SD.take 5 [true, true, true, true, true, true, false, false, false, false, false, false, false, false, false] rfl (by kernel_rfl) rfl (fun _ h => h) rfl rfl rfl (PureOp.indexAddr Try.underlying47 sz94 rfl rfl (AoOk.in_ hf) (fun _ => by omega)) ?_
      refine SD.take 6 [true, true, true, true, true, true, true, false, false, false, false, false, false, false, false] rfl (by kernel_rfl) rfl (fun _ h => h) rfl rfl rfl (PureOp.fieldAddr 7 Try.underlying94 rfl rfl sz3 rfl) ?_
      refine SD.take 7 [true, true, true, true, true, true, true, true, false, false, false, false, false, false, false] rfl (by kernel_rfl) rfl (fun _ h => h) rfl rfl rfl (PureOp.load (v := .int .i64 ((nth fl (((nth pl k).2.2.1).toNat)).2.2.2.2.2.2.2.1)) Try.underlying3 rfl rfl (fun _ => (CellIs.in_ hf (((nth pl k).2.2.1).toNat) 7 (by omega) (by omega)))) ?_
      refine SD.all [8, 12] (by kernel_rfl) (by simp) ⟨⟨_, [true, true, true, true, true, true, true, true, true, false, false, false, false, false, false], rfl, rfl, ?_⟩, ⟨_, [true, true, true, true, true, true, true, true, false, false, false, false, true, false, false], rfl, rfl, ?_⟩, trivial⟩
      · skip
        refine SL.calle rfl rfl rfl rfl rfl rfl callable46 (fun w hw => rule_ok u1 u2 fl rl fao rao fn fcap rn rcap hfn hrn w (hf.below hw.below) (hr.below hw.below) hfb hrb _) ?_
        refine SL.norm [_, _, _] rfl ?_
        refine SD.back (fun _ h => h) ?_
        refine SD.take 9 [true, true, true, true, true, true, true, true, true, true, false, false, false, false, false] rfl (by kernel_rfl) rfl (fun _ h => h) rfl rfl rfl (PureOp.move rfl) ?_
        refine SD.take 10 [true, true, true, true, true, true, true, true, true, true, true, false, false, false, false] rfl (by kernel_rfl) rfl (fun _ h => h) rfl rfl rfl (PureOp.extract rfl rfl) ?_
        refine SD.take 11 [true, true, true, true, true, true, true, true, true, true, true, true, false, false, false] rfl (by kernel_rfl) rfl (fun _ h => h) rfl rfl rfl (PureOp.extract rfl rfl) ?_
        refine SD.one 12 [true, true, true, true, true, true, true, true, true, true, true, true, true, false, false] (by kernel_rfl) rfl rfl ?_
        refine SL.alloc rfl rfl zero92 (fun b4 hb4 => ?_)
        refine SL.norm [_, _, _, _] rfl ?_
        refine SD.back (fun _ h => HeapOk.take h 3) ?_
        refine SD.one 13 [true, true, true, true, true, true, true, true, true, true, true, true, true, true, false] (by kernel_rfl) rfl rfl ?_
        refine SL.store 3 rfl rfl rfl rfl sz92 rfl rfl ?_
        refine SL.norm [_, _, _, _] rfl ?_
        refine SD.back (fun _ h => HeapOk.take h 3) ?_
        refine SD.take 14 [true, true, true, true, true, true, true, true, true, true, true, true, true, true, true] rfl (by kernel_rfl) rfl (fun _ h => HeapOk.take h 3) rfl rfl rfl (PureOp.assign rfl) ?_
        refine SD.done (by kernel_rfl) ?_
        refine QX.ofK ?_
        refine QX.then_ ?_
        refine WC.seq ?_
        refine WC.seq ?_
        refine WC.region ?_
        refine SL.pure rfl rfl rfl (PureOp.move rfl) ?_
        refine SL.pure rfl rfl rfl (PureOp.not rfl) ?_
        refine SL.pure rfl rfl rfl (PureOp.move rfl) ?_
        refine SL.newg 43 false rfl ?_
        refine SL.gpure (c := 2) rfl rfl rfl rfl rfl rfl rfl (PureOp.fieldAddrT 13 Try.underlying92 rfl sz3 rfl rfl) ?_
        refine SL.gpure (c := 2) rfl rfl rfl rfl rfl rfl rfl (PureOp.load (v := .int .i64 ((ruleE rl (nth fl (nth pl k).2.2.1.toNat).2.2.2.2.2.2.2.1).1.2.2.2.2.2.2.1)) Try.underlying3 rfl rfl (fun _ => (CellIs.cells 3 rfl rfl))) ?_
        refine SL.gpure (c := 2) rfl rfl rfl rfl rfl rfl rfl (PureOp.lss rfl rfl) ?_
        refine SL.pure rfl rfl rfl (PureOp.or_ rfl rfl rfl rfl) ?_
        refine SL.nil_then ?_
        refine WC.cond rfl (fun h3 => ?_) (fun h3 => ?_)
        · try simp only [Bool.and_eq_true, Bool.or_eq_true, Bool.not_eq_true', Bool.not_eq_false', Bool.and_eq_false_iff, Bool.or_eq_false_iff, decide_eq_true_eq, decide_eq_false_iff_not, Int.not_lt, Int.not_le, ne_eq, Decidable.not_not] at h3
          refine WC.seq ?_
          refine WC.region ?_
          refine SL.pure rfl rfl rfl (PureOp.assign rfl) ?_
          refine SL.pure rfl rfl rfl (PureOp.assign rfl) ?_
          refine SL.nil_then ?_
          refine WC.ret ?_
          refine QX.ret_then ?_
          refine QX.ret_in ?_
          refine QX.ret_then ?_
          refine QX.ret_then ?_
          refine QX.ret_in ?_
          refine QX.ret_then ?_
          refine QX.ret2 rfl rfl rfl ?_
          intro w hw
          rw [feeGo_drop (by omega), if_neg (by omega), if_pos (by simpa using h3)] at hs
          rw [← hs]
        · try simp only [Bool.and_eq_true, Bool.or_eq_true, Bool.not_eq_true', Bool.not_eq_false', Bool.and_eq_false_iff, Bool.or_eq_false_iff, decide_eq_true_eq, decide_eq_false_iff_not, Int.not_lt, Int.not_le, ne_eq, Decidable.not_not] at h3
          refine WC.skip ?_
          refine QX.then_ ?_
          refine WC.region ?_
          refine SL.pure rfl rfl rfl (PureOp.move rfl) ?_
          refine SL.pure rfl rfl rfl (PureOp.fieldAddrT 13 Try.underlying92 rfl sz3 rfl rfl) ?_
          refine SL.pure rfl rfl rfl (PureOp.load (v := .int .i64 ((ruleE rl (nth fl (nth pl k).2.2.1.toNat).2.2.2.2.2.2.2.1).1.2.2.2.2.2.2.1)) Try.underlying3 rfl rfl (fun _ => (CellIs.cells 3 rfl rfl))) ?_
          refine SL.pure rfl rfl rfl (PureOp.max_ rfl rfl) ?_
          refine SL.pure rfl rfl rfl (PureOp.assign rfl) ?_
          refine SL.nil ?_
          refine QX.normal_in ?_
          refine QX.then_ ?_
          refine WC.region ?_
          refine SL.pure rfl rfl rfl (PureOp.addN (k := 1) rfl rfl (fun _ => by omega)) ?_
          refine SL.pure rfl rfl rfl (PureOp.move rfl) ?_
          refine SL.nil ?_
          refine QX.round (σ := Nat × Int) (Ef := fun q_ => [(0, 0, .agg #[.slice fao fn fcap, .slice rao rn rcap, .slice u1.ao u1.l.length u1.cap, .slice u2.ao u2.l.length u2.cap]), (1, 0, .agg #[.slice pao pn pcap, .slice u3.ao u3.l.length u3.cap, .slice u4.ao u4.l.length u4.cap, .int .i64 u5, .int .i64 u6]), (2, 0, .pointer (some ⟨b1, 0, none⟩)), (3, 0, .pointer (some ⟨b2, 0, none⟩)), (11, 0, .pointer (some ⟨b2, 0, none⟩)), (12, 0, .slice pao pn pcap), (13, 0, .int .i64 ((pn : Nat) : Int)), (14, 0, .int .i64 ((q_.1 : Nat) : Int)), (6, 0, .int .i64 q_.2)]) (Hf := fun q_ => [Item.cells b1 [.slice fao fn fcap, .slice rao rn rcap, .slice u1.ao u1.l.length u1.cap, .slice u2.ao u2.l.length u2.cap] 52, Item.cells b2 [.slice pao pn pcap, .slice u3.ao u3.l.length u3.cap, .slice u4.ao u4.l.length u4.cap, .int .i64 u5, .int .i64 u6] 56]) (I := fun q_ => q_.1 ≤ pn ∧ feeGo fl rl rfee q_.2 (pl.drop q_.1) = feeE fl rl rfee pl) (μ := fun q_ => pn - q_.1) (s := (k, m)) 2 ((k + 1, max m (rfee (ruleE rl (nth fl (nth pl k).2.2.1.toNat).2.2.2.2.2.2.2.1).1))) ⟨⟨(by first | omega | (dsimp only; omega)), by rw [feeGo_drop (by omega), if_neg (by omega), if_neg (by simpa using h3)] at hs; exact hs⟩, by first | omega | (dsimp only; omega)⟩ ⟨rfl, rfl, rfl, rfl, rfl, rfl, rfl, rfl, rfl, rfl, rfl, rfl, rfl, rfl, rfl, rfl, rfl, rfl, trivial⟩ rfl
      · skip
        refine SL.alloc rfl rfl zero92 (fun b5 hb5 => ?_)
        refine SL.norm [_, _, _, _] rfl ?_
        refine SD.back (fun _ h => HeapOk.take h 3) ?_
        refine SD.one 8 [true, true, true, true, true, true, true, true, true, false, false, false, true, false, false] (by kernel_rfl) rfl rfl ?_
        refine SL.calle rfl rfl rfl rfl rfl rfl callable46 (fun w hw => rule_ok u1 u2 fl rl fao rao fn fcap rn rcap hfn hrn w (hf.below hw.below) (hr.below hw.below) hfb hrb _) ?_
        refine SL.norm [_, _, _, _] rfl ?_
        refine SD.back (fun _ h => HeapOk.take h 3) ?_
        refine SD.take 9 [true, true, true, true, true, true, true, true, true, true, false, false, true, false, false] rfl (by kernel_rfl) rfl (fun _ h => HeapOk.take h 3) rfl rfl rfl (PureOp.move rfl) ?_
        refine SD.take 10 [true, true, true, true, true, true, true, true, true, true, true, false, true, false, false] rfl (by kernel_rfl) rfl (fun _ h => HeapOk.take h 3) rfl rfl rfl (PureOp.extract rfl rfl) ?_
        refine SD.take 11 [true, true, true, true, true, true, true, true, true, true, true, true, true, false, false] rfl (by kernel_rfl) rfl (fun _ h => HeapOk.take h 3) rfl rfl rfl (PureOp.extract rfl rfl) ?_
        refine SD.one 13 [true, true, true, true, true, true, true, true, true, true, true, true, true, true, false] (by kernel_rfl) rfl rfl ?_
        refine SL.store 3 rfl rfl rfl rfl sz92 rfl rfl ?_
        refine SL.norm [_, _, _, _] rfl ?_
        refine SD.back (fun _ h => HeapOk.take h 3) ?_
        refine SD.take 14 [true, true, true, true, true, true, true, true, true, true, true, true, true, true, true] rfl (by kernel_rfl) rfl (fun _ h => HeapOk.take h 3) rfl rfl rfl (PureOp.assign rfl) ?_
        refine SD.done (by kernel_rfl) ?_
        refine QX.ofK ?_
        refine QX.then_ ?_
        refine WC.seq ?_
        refine WC.seq ?_
        refine WC.region ?_
        refine SL.pure rfl rfl rfl (PureOp.move rfl) ?_
        refine SL.pure rfl rfl rfl (PureOp.not rfl) ?_
        refine SL.pure rfl rfl rfl (PureOp.move rfl) ?_
        refine SL.newg 43 false rfl ?_
        refine SL.gpure (c := 2) rfl rfl rfl rfl rfl rfl rfl (PureOp.fieldAddrT 13 Try.underlying92 rfl sz3 rfl rfl) ?_
        refine SL.gpure (c := 2) rfl rfl rfl rfl rfl rfl rfl (PureOp.load (v := .int .i64 ((ruleE rl (nth fl (nth pl k).2.2.1.toNat).2.2.2.2.2.2.2.1).1.2.2.2.2.2.2.1)) Try.underlying3 rfl rfl (fun _ => (CellIs.cells 3 rfl rfl))) ?_
        refine SL.gpure (c := 2) rfl rfl rfl rfl rfl rfl rfl (PureOp.lss rfl rfl) ?_
        refine SL.pure rfl rfl rfl (PureOp.or_ rfl rfl rfl rfl) ?_
        refine SL.nil_then ?_
        refine WC.cond rfl (fun h4 => ?_) (fun h4 => ?_)
        · try simp only [Bool.and_eq_true, Bool.or_eq_true, Bool.not_eq_true', Bool.not_eq_false', Bool.and_eq_false_iff, Bool.or_eq_false_iff, decide_eq_true_eq, decide_eq_false_iff_not, Int.not_lt, Int.not_le, ne_eq, Decidable.not_not] at h4
          refine WC.seq ?_
          refine WC.region ?_
          refine SL.pure rfl rfl rfl (PureOp.assign rfl) ?_
          refine SL.pure rfl rfl rfl (PureOp.assign rfl) ?_
          refine SL.nil_then ?_
          refine WC.ret ?_
          refine QX.ret_then ?_
          refine QX.ret_in ?_
          refine QX.ret_then ?_
          refine QX.ret_then ?_
          refine QX.ret_in ?_
          refine QX.ret_then ?_
          refine QX.ret2 rfl rfl rfl ?_
          intro w hw
          rw [feeGo_drop (by omega), if_neg (by omega), if_pos (by simpa using h4)] at hs
          rw [← hs]
        · try simp only [Bool.and_eq_true, Bool.or_eq_true, Bool.not_eq_true', Bool.not_eq_false', Bool.and_eq_false_iff, Bool.or_eq_false_iff, decide_eq_true_eq, decide_eq_false_iff_not, Int.not_lt, Int.not_le, ne_eq, Decidable.not_not] at h4
          refine WC.skip ?_
          refine QX.then_ ?_
          refine WC.region ?_
          refine SL.pure rfl rfl rfl (PureOp.move rfl) ?_
          refine SL.pure rfl rfl rfl (PureOp.fieldAddrT 13 Try.underlying92 rfl sz3 rfl rfl) ?_
          refine SL.pure rfl rfl rfl (PureOp.load (v := .int .i64 ((ruleE rl (nth fl (nth pl k).2.2.1.toNat).2.2.2.2.2.2.2.1).1.2.2.2.2.2.2.1)) Try.underlying3 rfl rfl (fun _ => (CellIs.cells 3 rfl rfl))) ?_
          refine SL.pure rfl rfl rfl (PureOp.max_ rfl rfl) ?_
          refine SL.pure rfl rfl rfl (PureOp.assign rfl) ?_
          refine SL.nil ?_
          refine QX.normal_in ?_
          refine QX.then_ ?_
          refine WC.region ?_
          refine SL.pure rfl rfl rfl (PureOp.addN (k := 1) rfl rfl (fun _ => by omega)) ?_
          refine SL.pure rfl rfl rfl (PureOp.move rfl) ?_
          refine SL.nil ?_
          refine QX.round (σ := Nat × Int) (Ef := fun q_ => [(0, 0, .agg #[.slice fao fn fcap, .slice rao rn rcap, .slice u1.ao u1.l.length u1.cap, .slice u2.ao u2.l.length u2.cap]), (1, 0, .agg #[.slice pao pn pcap, .slice u3.ao u3.l.length u3.cap, .slice u4.ao u4.l.length u4.cap, .int .i64 u5, .int .i64 u6]), (2, 0, .pointer (some ⟨b1, 0, none⟩)), (3, 0, .pointer (some ⟨b2, 0, none⟩)), (11, 0, .pointer (some ⟨b2, 0, none⟩)), (12, 0, .slice pao pn pcap), (13, 0, .int .i64 ((pn : Nat) : Int)), (14, 0, .int .i64 ((q_.1 : Nat) : Int)), (6, 0, .int .i64 q_.2)]) (Hf := fun q_ => [Item.cells b1 [.slice fao fn fcap, .slice rao rn rcap, .slice u1.ao u1.l.length u1.cap, .slice u2.ao u2.l.length u2.cap] 52, Item.cells b2 [.slice pao pn pcap, .slice u3.ao u3.l.length u3.cap, .slice u4.ao u4.l.length u4.cap, .int .i64 u5, .int .i64 u6] 56]) (I := fun q_ => q_.1 ≤ pn ∧ feeGo fl rl rfee q_.2 (pl.drop q_.1) = feeE fl rl rfee pl) (μ := fun q_ => pn - q_.1) (s := (k, m)) 2 ((k + 1, max m (rfee (ruleE rl (nth fl (nth pl k).2.2.1.toNat).2.2.2.2.2.2.2.1).1))) ⟨⟨(by first | omega | (dsimp only; omega)), by rw [feeGo_drop (by omega), if_neg (by omega), if_neg (by simpa using h4)] at hs; exact hs⟩, by first | omega | (dsimp only; omega)⟩ ⟨rfl, rfl, rfl, rfl, rfl, rfl, rfl, rfl, rfl, rfl, rfl, rfl, rfl, rfl, rfl, rfl, rfl, rfl, trivial⟩ rfl
  · try simp only [Bool.and_eq_true, Bool.or_eq_true, Bool.not_eq_true', Bool.not_eq_false', Bool.and_eq_false_iff, Bool.or_eq_false_iff, decide_eq_true_eq, decide_eq_false_iff_not, Int.not_lt, Int.not_le, ne_eq, Decidable.not_not] at h1
    refine WC.exit ?_
    refine QX.exit_then ?_
    refine QX.exit_then ?_
    refine QX.exit_hit ?_
    refine QX.then_ ?_
    refine WC.seq ?_
    refine WC.region ?_
    refine SL.pure rfl rfl rfl (PureOp.move rfl) ?_
    refine SL.pure rfl rfl rfl (PureOp.assign rfl) ?_
    refine SL.pure rfl rfl rfl (PureOp.assign rfl) ?_
    refine SL.nil_then ?_
    refine WC.ret ?_
    refine QX.ret2 rfl rfl rfl ?_
    intro w hw
    rw [feeGo_end (by omega)] at hs
    rw [← hs]

set_option maxHeartbeats 4000000 in
set_option maxRecDepth 100000 in
theorem rfee_ok (u1 u2 : SliceV Unit) (fl : List Fa) (rl : List Ru) (fao rao : Option Addr) (fn fcap rn rcap : Nat) (hfn : fn = fl.length) (hrn : rn = rl.length) (w0 : World) (hf : SliceIn w0 9 fao fn fcap (rowsF enc94 fl)) (hr : SliceIn w0 15 rao rn rcap (rowsF enc92 rl)) (hfb : fn ≤ 1000) (hrb : rn ≤ 1000) (u3 : SliceV Unit) (u4 : SliceV Ch) (u5 u6 : Int) (pl : List Pa) (pao : Option Addr) (pn pcap : Nat) (hpn : pn = pl.length) (hp : SliceIn w0 4 pao pn pcap (rowsF enc96 pl)) (hpb : pn ≤ 1000) : FnC Try.prog 23 [.agg #[.slice fao fn fcap, .slice rao rn rcap, .slice u1.ao u1.l.length u1.cap, .slice u2.ao u2.l.length u2.cap], .agg #[.slice pao pn pcap, .slice u3.ao u3.l.length u3.cap, .slice u4.ao u4.l.length u4.cap, .int .i64 u5, .int .i64 u6]] w0 fun v w' => v = .tuple #[.int .i64 (feeE fl rl rfee pl).1, .int .i64 (feeE fl rl rfee pl).2] := by
  refine fnc (N := 56) Try.func23 rfl rfl rfl ?_
  refine WC.seq ?_
  refine WC.region ?_
  refine SL.box rfl rfl rfl (fun b1 hb1 => ?_)
  refine SL.norm [_] rfl ?_
  refine SL.box rfl rfl rfl (fun b2 hb2 => ?_)
  refine SL.norm [_, _] rfl ?_
  refine SL.pure rfl rfl rfl (PureOp.assign rfl) ?_
  refine SL.pure rfl rfl rfl (PureOp.assign rfl) ?_
  refine SL.nil_then ?_
  refine WC.seq ?_
  refine WC.region ?_
  refine SL.pure rfl rfl rfl (PureOp.assign rfl) ?_
  refine SL.nil_then ?_
  refine WC.seq ?_
  refine WC.seq ?_
  refine WC.region ?_
  refine SL.pure rfl rfl rfl (PureOp.assign rfl) ?_
  refine SL.nil_then ?_
  refine WC.block ?_
  refine WC.loop (σ := Nat × Int) (fun q_ => [(0, 0, .agg #[.slice fao fn fcap, .slice rao rn rcap, .slice u1.ao u1.l.length u1.cap, .slice u2.ao u2.l.length u2.cap]), (1, 0, .agg #[.slice pao pn pcap, .slice u3.ao u3.l.length u3.cap, .slice u4.ao u4.l.length u4.cap, .int .i64 u5, .int .i64 u6]), (2, 0, .pointer (some ⟨b1, 0, none⟩)), (3, 0, .pointer (some ⟨b2, 0, none⟩)), (7, 0, .int .i64 ((q_.1 : Nat) : Int)), (6, 0, .int .i64 q_.2)]) (fun q_ => [Item.cells b1 [.slice fao fn fcap, .slice rao rn rcap, .slice u1.ao u1.l.length u1.cap, .slice u2.ao u2.l.length u2.cap] 52, Item.cells b2 [.slice pao pn pcap, .slice u3.ao u3.l.length u3.cap, .slice u4.ao u4.l.length u4.cap, .int .i64 u5, .int .i64 u6] 56]) (fun q_ => q_.1 ≤ pn ∧ feeGo fl rl rfee q_.2 (pl.drop q_.1) = feeE fl rl rfee pl) (fun q_ => pn - q_.1) 2 ((0, 0)) (⟨Nat.zero_le _, rfl⟩) ⟨rfl, rfl, rfl, rfl, rfl, rfl, rfl, rfl, rfl, rfl, rfl, rfl, trivial⟩ rfl ?_
  rintro ⟨k, m⟩ ⟨hk, hs⟩
  try dsimp only at *
  refine WC.seq ?_
  refine WC.seq ?_
  refine WC.region ?_
  refine SL.pure rfl rfl rfl (PureOp.move rfl) ?_
  refine SL.pure rfl rfl rfl (PureOp.fieldAddrT 0 Try.underlying56 rfl sz53 rfl rfl) ?_
  refine SL.pure rfl rfl rfl (PureOp.load (v := .slice pao pn pcap) Try.underlying53 rfl rfl (fun _ => (CellIs.cells 1 rfl rfl))) ?_
  refine SL.pure rfl rfl rfl (PureOp.len rfl Try.underlying53) ?_
  refine SL.pure rfl rfl rfl (PureOp.lss rfl rfl) ?_
  refine SL.nil_then ?_
  refine WC.cond rfl (fun h1 => ?_) (fun h1 => ?_)
  · try simp only [Bool.and_eq_true, Bool.or_eq_true, Bool.not_eq_true', Bool.not_eq_false', Bool.and_eq_false_iff, Bool.or_eq_false_iff, decide_eq_true_eq, decide_eq_false_iff_not, Int.not_lt, Int.not_le, ne_eq, Decidable.not_not] at h1
    refine WC.skip ?_
    refine QX.then_ ?_
    refine WC.seq ?_
    refine WC.block ?_
    refine WC.seq ?_
    refine WC.region ?_
    refine SL.pure rfl rfl rfl (PureOp.fieldAddrT 0 Try.underlying56 rfl sz53 rfl rfl) ?_
    refine SL.pure rfl rfl rfl (PureOp.load (v := .slice pao pn pcap) Try.underlying53 rfl rfl (fun _ => (CellIs.cells 1 rfl rfl))) ?_
    refine SL.pure rfl rfl rfl (PureOp.move rfl) ?_
    refine SL.pure rfl rfl rfl (PureOp.indexAddrN Try.underlying53 sz96 rfl rfl (AoOk.in_ hp) (fun _ => by omega)) ?_
    refine SL.pure rfl rfl rfl (PureOp.fieldAddr 2 Try.underlying96 rfl rfl sz3 rfl) ?_
    refine SL.pure rfl rfl rfl (PureOp.load (v := .int .i64 ((nth pl k).2.2.1)) Try.underlying3 rfl rfl (fun _ => (CellIs.in_ hp k 2 (by omega) (by omega)))) ?_
    refine SL.pure rfl rfl rfl (PureOp.assign rfl) ?_
    refine SL.nil_then ?_
    refine WC.seq ?_
    refine WC.seq ?_
    refine WC.region ?_
    refine SL.pure rfl rfl rfl (PureOp.move rfl) ?_
    refine SL.pure rfl rfl rfl (PureOp.lss rfl rfl) ?_
    refine SL.pure rfl rfl rfl (PureOp.move rfl) ?_
    refine SL.newg 26 false rfl ?_
    refine SL.gpure (c := 1) rfl rfl rfl rfl rfl rfl rfl (PureOp.move rfl) ?_
    refine SL.gpure (c := 1) rfl rfl rfl rfl rfl rfl rfl (PureOp.fieldAddrT 0 Try.underlying52 rfl sz47 rfl rfl) ?_
    refine SL.gpure (c := 1) rfl rfl rfl rfl rfl rfl rfl (PureOp.load (v := .slice fao fn fcap) Try.underlying47 rfl rfl (fun _ => (CellIs.cells 0 rfl rfl))) ?_
    refine SL.gpure (c := 1) rfl rfl rfl rfl rfl rfl rfl (PureOp.len rfl Try.underlying47) ?_
    refine SL.gpure (c := 1) rfl rfl rfl rfl rfl rfl rfl (PureOp.geq rfl rfl) ?_
    refine SL.pure rfl rfl rfl (PureOp.or_ rfl rfl rfl rfl) ?_
    refine SL.nil_then ?_
    refine WC.cond rfl (fun h2 => ?_) (fun h2 => ?_)
    · try simp only [Bool.and_eq_true, Bool.or_eq_true, Bool.not_eq_true', Bool.not_eq_false', Bool.and_eq_false_iff, Bool.or_eq_false_iff, decide_eq_true_eq, decide_eq_false_iff_not, Int.not_lt, Int.not_le, ne_eq, Decidable.not_not] at h2
      refine WC.seq ?_
      refine WC.region ?_
      refine SL.pure rfl rfl rfl (PureOp.assign rfl) ?_
      refine SL.pure rfl rfl rfl (PureOp.assign rfl) ?_
      refine SL.nil_then ?_
      refine WC.ret ?_
      refine QX.ret_then ?_
      refine QX.ret_in ?_
      refine QX.ret_then ?_
      refine QX.ret_then ?_
      refine QX.ret_in ?_
      refine QX.ret_then ?_
      refine QX.ret2 rfl rfl rfl ?_
      intro w hw
      rw [feeGo_drop (by omega), if_pos (by omega)] at hs
      rw [← hs]
    · try simp only [Bool.and_eq_true, Bool.or_eq_true, Bool.not_eq_true', Bool.not_eq_false', Bool.and_eq_false_iff, Bool.or_eq_false_iff, decide_eq_true_eq, decide_eq_false_iff_not, Int.not_lt, Int.not_le, ne_eq, Decidable.not_not] at h2
      refine WC.skip ?_
      refine QX.then_ ?_
      refine WC.seq ?_
      refine WC.drawH 14 [false, false, false, false, false, false, false, false, false, false, false, false, false, false] rfl rfl rfl ?_
      refine SD.take 0 [true, false, false, false, false, false, false, false, false, false, false, false, false, false] rfl (by kernel_rfl) rfl (fun _ h => h) rfl rfl rfl (PureOp.loads (vs := [.slice fao fn fcap, .slice rao rn rcap, .slice u1.ao u1.l.length u1.cap, .slice u2.ao u2.l.length u2.cap]) Try.underlying52 rfl rfl (fun _ => (RowIs.cells 0 0 4 rfl rfl)) sz52) ?_
      refine SD.take 1 [true, true, false, false, false, false, false, false, false, false, false, false, false, false] rfl (by kernel_rfl) rfl (fun _ h => h) rfl rfl rfl (PureOp.fieldAddrT 0 Try.underlying52 rfl sz47 rfl rfl) ?_
      refine SD.take 2 [true, true, true, false, false, false, false, false, false, false, false, false, false, false] rfl (by kernel_rfl) rfl (fun _ h => h) rfl rfl rfl (PureOp.load (v := .slice fao fn fcap) Try.underlying47 rfl rfl (fun _ => (CellIs.cells 0 rfl rfl))) ?_
      refine SD.take 3 [true, true, true, true, false, false, false, false, false, false, false, false, false, false] rfl (by kernel_rfl) rfl (fun _ h => h) rfl rfl rfl (PureOp.move rfl) ?_
      refine SD.take 4 [true, true, true, true, true, false, false, false, false, false, false, false, false, false] rfl (by kernel_rfl) rfl (fun _ h => h) rfl rfl rfl (PureOp.indexAddr Try.underlying47 sz94 rfl rfl (AoOk.in_ hf) (fun _ => by omega)) ?_
      refine SD.take 5 [true, true, true, true, true, true, false, false, false, false, false, false, false, false] rfl (by kernel_rfl) rfl (fun _ h => h) rfl rfl rfl (PureOp.fieldAddr 7 Try.underlying94 rfl rfl sz3 rfl) ?_
      refine SD.take 6 [true, true, true, true, true, true, true, false, false, false, false, false, false, false] rfl (by kernel_rfl) rfl (fun _ h => h) rfl rfl rfl (PureOp.load (v := .int .i64 ((nth fl (((nth pl k).2.2.1).toNat)).2.2.2.2.2.2.2.1)) Try.underlying3 rfl rfl (fun _ => (CellIs.in_ hf (((nth pl k).2.2.1).toNat) 7 (by omega) (by omega)))) ?_
      refine SD.all [7, 11] (by kernel_rfl) (by simp) ⟨⟨_, [true, true, true, true, true, true, true, true, false, false, false, false, false, false], rfl, rfl, ?_⟩, ⟨_, [true, true, true, true, true, true, true, false, false, false, false, true, false, false], rfl, rfl, ?_⟩, trivial⟩
      · skip
        refine SL.calle rfl rfl rfl rfl rfl rfl callable47 (fun w hw => rrule_ok u1 u2 fl rl fao rao fn fcap rn rcap hfn hrn w (hf.below hw.below) (hr.below hw.below) hfb hrb _) ?_
        refine SL.norm [_, _] rfl ?_
        refine SD.back (fun _ h => h) ?_
        refine SD.take 8 [true, true, true, true, true, true, true, true, true, false, false, false, false, false] rfl (by kernel_rfl) rfl (fun _ h => h) rfl rfl rfl (PureOp.move rfl) ?_
        refine SD.take 9 [true, true, true, true, true, true, true, true, true, true, false, false, false, false] rfl (by kernel_rfl) rfl (fun _ h => h) rfl rfl rfl (PureOp.extract rfl rfl) ?_
        refine SD.take 10 [true, true, true, true, true, true, true, true, true, true, true, false, false, false] rfl (by kernel_rfl) rfl (fun _ h => h) rfl rfl rfl (PureOp.extract rfl rfl) ?_
        refine SD.one 11 [true, true, true, true, true, true, true, true, true, true, true, true, false, false] (by kernel_rfl) rfl rfl ?_
        refine SL.alloc rfl rfl zero92 (fun b3 hb3 => ?_)
        refine SL.norm [_, _, _] rfl ?_
        refine SD.back (fun _ h => HeapOk.take h 2) ?_
        refine SD.one 12 [true, true, true, true, true, true, true, true, true, true, true, true, true, false] (by kernel_rfl) rfl rfl ?_
        refine SL.store 2 rfl rfl rfl rfl sz92 rfl rfl ?_
        refine SL.norm [_, _, _] rfl ?_
        refine SD.back (fun _ h => HeapOk.take h 2) ?_
        refine SD.take 13 [true, true, true, true, true, true, true, true, true, true, true, true, true, true] rfl (by kernel_rfl) rfl (fun _ h => HeapOk.take h 2) rfl rfl rfl (PureOp.assign rfl) ?_
        refine SD.done (by kernel_rfl) ?_
        refine QX.ofK ?_
        refine QX.then_ ?_
        refine WC.seq ?_
        refine WC.seq ?_
        refine WC.region ?_
        refine SL.pure rfl rfl rfl (PureOp.move rfl) ?_
        refine SL.pure rfl rfl rfl (PureOp.not rfl) ?_
        refine SL.pure rfl rfl rfl (PureOp.move rfl) ?_
        refine SL.newg 46 false rfl ?_
        refine SL.gpure (c := 2) rfl rfl rfl rfl rfl rfl rfl (PureOp.fieldAddrT 13 Try.underlying92 rfl sz3 rfl rfl) ?_
        refine SL.gpure (c := 2) rfl rfl rfl rfl rfl rfl rfl (PureOp.load (v := .int .i64 ((ruleE rl (nth fl (nth pl k).2.2.1.toNat).2.2.2.2.2.2.2.1).1.2.2.2.2.2.2.1)) Try.underlying3 rfl rfl (fun _ => (CellIs.cells 2 rfl rfl))) ?_
        refine SL.gpure (c := 2) rfl rfl rfl rfl rfl rfl rfl (PureOp.lss rfl rfl) ?_
        refine SL.pure rfl rfl rfl (PureOp.or_ rfl rfl rfl rfl) ?_
        refine SL.nil_then ?_
        refine WC.cond rfl (fun h3 => ?_) (fun h3 => ?_)
        · try simp only [Bool.and_eq_true, Bool.or_eq_true, Bool.not_eq_true', Bool.not_eq_false', Bool.and_eq_false_iff, Bool.or_eq_false_iff, decide_eq_true_eq, decide_eq_false_iff_not, Int.not_lt, Int.not_le, ne_eq, Decidable.not_not] at h3
          refine WC.seq ?_
          refine WC.region ?_
          refine SL.pure rfl rfl rfl (PureOp.assign rfl) ?_
          refine SL.pure rfl rfl rfl (PureOp.assign rfl) ?_
          refine SL.nil_then ?_
          refine WC.ret ?_
          refine QX.ret_then ?_
          refine QX.ret_in ?_
          refine QX.ret_then ?_
          refine QX.ret_then ?_
          refine QX.ret_in ?_
          refine QX.ret_then ?_
          refine QX.ret2 rfl rfl rfl ?_
          intro w hw
          rw [feeGo_drop (by omega), if_neg (by omega), if_pos (by simpa using h3)] at hs
          rw [← hs]
        · try simp only [Bool.and_eq_true, Bool.or_eq_true, Bool.not_eq_true', Bool.not_eq_false', Bool.and_eq_false_iff, Bool.or_eq_false_iff, decide_eq_true_eq, decide_eq_false_iff_not, Int.not_lt, Int.not_le, ne_eq, Decidable.not_not] at h3
          refine WC.skip ?_
          refine QX.then_ ?_
          refine WC.region ?_
          refine SL.pure rfl rfl rfl (PureOp.move rfl) ?_
          refine SL.pure rfl rfl rfl (PureOp.fieldAddrT 13 Try.underlying92 rfl sz3 rfl rfl) ?_
          refine SL.pure rfl rfl rfl (PureOp.load (v := .int .i64 ((ruleE rl (nth fl (nth pl k).2.2.1.toNat).2.2.2.2.2.2.2.1).1.2.2.2.2.2.2.1)) Try.underlying3 rfl rfl (fun _ => (CellIs.cells 2 rfl rfl))) ?_
          refine SL.pure rfl rfl rfl (PureOp.max_ rfl rfl) ?_
          refine SL.pure rfl rfl rfl (PureOp.assign rfl) ?_
          refine SL.nil ?_
          refine QX.normal_in ?_
          refine QX.then_ ?_
          refine WC.region ?_
          refine SL.pure rfl rfl rfl (PureOp.move rfl) ?_
          refine SL.pure rfl rfl rfl (PureOp.addN (k := 1) rfl rfl (fun _ => by omega)) ?_
          refine SL.pure rfl rfl rfl (PureOp.assign rfl) ?_
          refine SL.nil ?_
          refine QX.round (σ := Nat × Int) (Ef := fun q_ => [(0, 0, .agg #[.slice fao fn fcap, .slice rao rn rcap, .slice u1.ao u1.l.length u1.cap, .slice u2.ao u2.l.length u2.cap]), (1, 0, .agg #[.slice pao pn pcap, .slice u3.ao u3.l.length u3.cap, .slice u4.ao u4.l.length u4.cap, .int .i64 u5, .int .i64 u6]), (2, 0, .pointer (some ⟨b1, 0, none⟩)), (3, 0, .pointer (some ⟨b2, 0, none⟩)), (7, 0, .int .i64 ((q_.1 : Nat) : Int)), (6, 0, .int .i64 q_.2)]) (Hf := fun q_ => [Item.cells b1 [.slice fao fn fcap, .slice rao rn rcap, .slice u1.ao u1.l.length u1.cap, .slice u2.ao u2.l.length u2.cap] 52, Item.cells b2 [.slice pao pn pcap, .slice u3.ao u3.l.length u3.cap, .slice u4.ao u4.l.length u4.cap, .int .i64 u5, .int .i64 u6] 56]) (I := fun q_ => q_.1 ≤ pn ∧ feeGo fl rl rfee q_.2 (pl.drop q_.1) = feeE fl rl rfee pl) (μ := fun q_ => pn - q_.1) (s := (k, m)) 2 ((k + 1, max m (rfee (ruleE rl (nth fl (nth pl k).2.2.1.toNat).2.2.2.2.2.2.2.1).1))) ⟨⟨(by first | omega | (dsimp only; omega)), by rw [feeGo_drop (by omega), if_neg (by omega), if_neg (by simpa using h3)] at hs; exact hs⟩, by first | omega | (dsimp only; omega)⟩ ⟨rfl, rfl, rfl, rfl, rfl, rfl, rfl, rfl, rfl, rfl, rfl, rfl, trivial⟩ rfl
      · skip
        refine SL.alloc rfl rfl zero92 (fun b4 hb4 => ?_)
        refine SL.norm [_, _, _] rfl ?_
        refine SD.back (fun _ h => HeapOk.take h 2) ?_
        refine SD.one 7 [true, true, true, true, true, true, true, true, false, false, false, true, false, false] (by kernel_rfl) rfl rfl ?_
        refine SL.calle rfl rfl rfl rfl rfl rfl callable47 (fun w hw => rrule_ok u1 u2 fl rl fao rao fn fcap rn rcap hfn hrn w (hf.below hw.below) (hr.below hw.below) hfb hrb _) ?_
        refine SL.norm [_, _, _] rfl ?_
        refine SD.back (fun _ h => HeapOk.take h 2) ?_
        refine SD.take 8 [true, true, true, true, true, true, true, true, true, false, false, true, false, false] rfl (by kernel_rfl) rfl (fun _ h => HeapOk.take h 2) rfl rfl rfl (PureOp.move rfl) ?_
        refine SD.take 9 [true, true, true, true, true, true, true, true, true, true, false, true, false, false] rfl (by kernel_rfl) rfl (fun _ h => HeapOk.take h 2) rfl rfl rfl (PureOp.extract rfl rfl) ?_
        refine SD.take 10 [true, true, true, true, true, true, true, true, true, true, true, true, false, false] rfl (by kernel_rfl) rfl (fun _ h => HeapOk.take h 2) rfl rfl rfl (PureOp.extract rfl rfl) ?_
        refine SD.one 12 [true, true, true, true, true, true, true, true, true, true, true, true, true, false] (by kernel_rfl) rfl rfl ?_
        refine SL.store 2 rfl rfl rfl rfl sz92 rfl rfl ?_
        refine SL.norm [_, _, _] rfl ?_
        refine SD.back (fun _ h => HeapOk.take h 2) ?_
        refine SD.take 13 [true, true, true, true, true, true, true, true, true, true, true, true, true, true] rfl (by kernel_rfl) rfl (fun _ h => HeapOk.take h 2) rfl rfl rfl (PureOp.assign rfl) ?_
        refine SD.done (by kernel_rfl) ?_
        refine QX.ofK ?_
        refine QX.then_ ?_
        refine WC.seq ?_
        refine WC.seq ?_
        refine WC.region ?_
        refine SL.pure rfl rfl rfl (PureOp.move rfl) ?_
        refine SL.pure rfl rfl rfl (PureOp.not rfl) ?_
        refine SL.pure rfl rfl rfl (PureOp.move rfl) ?_
        refine SL.newg 46 false rfl ?_
        refine SL.gpure (c := 2) rfl rfl rfl rfl rfl rfl rfl (PureOp.fieldAddrT 13 Try.underlying92 rfl sz3 rfl rfl) ?_
        refine SL.gpure (c := 2) rfl rfl rfl rfl rfl rfl rfl (PureOp.load (v := .int .i64 ((ruleE rl (nth fl (nth pl k).2.2.1.toNat).2.2.2.2.2.2.2.1).1.2.2.2.2.2.2.1)) Try.underlying3 rfl rfl (fun _ => (CellIs.cells 2 rfl rfl))) ?_
        refine SL.gpure (c := 2) rfl rfl rfl rfl rfl rfl rfl (PureOp.lss rfl rfl) ?_
        refine SL.pure rfl rfl rfl (PureOp.or_ rfl rfl rfl rfl) ?_
        refine SL.nil_then ?_
        refine WC.cond rfl (fun h4 => ?_) (fun h4 => ?_)
        · try simp only [Bool.and_eq_true, Bool.or_eq_true, Bool.not_eq_true', Bool.not_eq_false', Bool.and_eq_false_iff, Bool.or_eq_false_iff, decide_eq_true_eq, decide_eq_false_iff_not, Int.not_lt, Int.not_le, ne_eq, Decidable.not_not] at h4
          refine WC.seq ?_
          refine WC.region ?_
          refine SL.pure rfl rfl rfl (PureOp.assign rfl) ?_
          refine SL.pure rfl rfl rfl (PureOp.assign rfl) ?_
          refine SL.nil_then ?_
          refine WC.ret ?_
          refine QX.ret_then ?_
          refine QX.ret_in ?_
          refine QX.ret_then ?_
          refine QX.ret_then ?_
          refine QX.ret_in ?_
          refine QX.ret_then ?_
          refine QX.ret2 rfl rfl rfl ?_
          intro w hw
          rw [feeGo_drop (by omega), if_neg (by omega), if_pos (by simpa using h4)] at hs
          rw [← hs]
        · try simp only [Bool.and_eq_true, Bool.or_eq_true, Bool.not_eq_true', Bool.not_eq_false', Bool.and_eq_false_iff, Bool.or_eq_false_iff, decide_eq_true_eq, decide_eq_false_iff_not, Int.not_lt, Int.not_le, ne_eq, Decidable.not_not] at h4
          refine WC.skip ?_
          refine QX.then_ ?_
          refine WC.region ?_
          refine SL.pure rfl rfl rfl (PureOp.move rfl) ?_
          refine SL.pure rfl rfl rfl (PureOp.fieldAddrT 13 Try.underlying92 rfl sz3 rfl rfl) ?_
          refine SL.pure rfl rfl rfl (PureOp.load (v := .int .i64 ((ruleE rl (nth fl (nth pl k).2.2.1.toNat).2.2.2.2.2.2.2.1).1.2.2.2.2.2.2.1)) Try.underlying3 rfl rfl (fun _ => (CellIs.cells 2 rfl rfl))) ?_
          refine SL.pure rfl rfl rfl (PureOp.max_ rfl rfl) ?_
          refine SL.pure rfl rfl rfl (PureOp.assign rfl) ?_
          refine SL.nil ?_
          refine QX.normal_in ?_
          refine QX.then_ ?_
          refine WC.region ?_
          refine SL.pure rfl rfl rfl (PureOp.move rfl) ?_
          refine SL.pure rfl rfl rfl (PureOp.addN (k := 1) rfl rfl (fun _ => by omega)) ?_
          refine SL.pure rfl rfl rfl (PureOp.assign rfl) ?_
          refine SL.nil ?_
          refine QX.round (σ := Nat × Int) (Ef := fun q_ => [(0, 0, .agg #[.slice fao fn fcap, .slice rao rn rcap, .slice u1.ao u1.l.length u1.cap, .slice u2.ao u2.l.length u2.cap]), (1, 0, .agg #[.slice pao pn pcap, .slice u3.ao u3.l.length u3.cap, .slice u4.ao u4.l.length u4.cap, .int .i64 u5, .int .i64 u6]), (2, 0, .pointer (some ⟨b1, 0, none⟩)), (3, 0, .pointer (some ⟨b2, 0, none⟩)), (7, 0, .int .i64 ((q_.1 : Nat) : Int)), (6, 0, .int .i64 q_.2)]) (Hf := fun q_ => [Item.cells b1 [.slice fao fn fcap, .slice rao rn rcap, .slice u1.ao u1.l.length u1.cap, .slice u2.ao u2.l.length u2.cap] 52, Item.cells b2 [.slice pao pn pcap, .slice u3.ao u3.l.length u3.cap, .slice u4.ao u4.l.length u4.cap, .int .i64 u5, .int .i64 u6] 56]) (I := fun q_ => q_.1 ≤ pn ∧ feeGo fl rl rfee q_.2 (pl.drop q_.1) = feeE fl rl rfee pl) (μ := fun q_ => pn - q_.1) (s := (k, m)) 2 ((k + 1, max m (rfee (ruleE rl (nth fl (nth pl k).2.2.1.toNat).2.2.2.2.2.2.2.1).1))) ⟨⟨(by first | omega | (dsimp only; omega)), by rw [feeGo_drop (by omega), if_neg (by omega), if_neg (by simpa using h4)] at hs; exact hs⟩, by first | omega | (dsimp only; omega)⟩ ⟨rfl, rfl, rfl, rfl, rfl, rfl, rfl, rfl, rfl, rfl, rfl, rfl, trivial⟩ rfl
  · try simp only [Bool.and_eq_true, Bool.or_eq_true, Bool.not_eq_true', Bool.not_eq_false', Bool.and_eq_false_iff, Bool.or_eq_false_iff, decide_eq_true_eq, decide_eq_false_iff_not, Int.not_lt, Int.not_le, ne_eq, Decidable.not_not] at h1
    refine WC.exit ?_
    refine QX.exit_then ?_
    refine QX.exit_then ?_
    refine QX.exit_hit ?_
    refine QX.then_ ?_
    refine WC.seq ?_
    refine WC.region ?_
    refine SL.pure rfl rfl rfl (PureOp.move rfl) ?_
    refine SL.pure rfl rfl rfl (PureOp.assign rfl) ?_
    refine SL.pure rfl rfl rfl (PureOp.assign rfl) ?_
    refine SL.nil_then ?_
    refine WC.ret ?_
    refine QX.ret2 rfl rfl rfl ?_
    intro w hw
    rw [feeGo_end (by omega)] at hs
    rw [← hs]

set_option maxHeartbeats 4000000 in
set_option maxRecDepth 100000 in
theorem xfee_ok (u1 u2 : SliceV Unit) (fl : List Fa) (rl : List Ru) (fao rao : Option Addr) (fn fcap rn rcap : Nat) (hfn : fn = fl.length) (hrn : rn = rl.length) (w0 : World) (hf : SliceIn w0 9 fao fn fcap (rowsF enc94 fl)) (hr : SliceIn w0 15 rao rn rcap (rowsF enc92 rl)) (hfb : fn ≤ 1000) (hrb : rn ≤ 1000) (u3 : SliceV Unit) (u4 : SliceV Ch) (u5 u6 : Int) (pl : List Pa) (pao : Option Addr) (pn pcap : Nat) (hpn : pn = pl.length) (hp : SliceIn w0 4 pao pn pcap (rowsF enc96 pl)) (hpb : pn ≤ 1000) : FnC Try.prog 32 [.agg #[.slice fao fn fcap, .slice rao rn rcap, .slice u1.ao u1.l.length u1.cap, .slice u2.ao u2.l.length u2.cap], .agg #[.slice pao pn pcap, .slice u3.ao u3.l.length u3.cap, .slice u4.ao u4.l.length u4.cap, .int .i64 u5, .int .i64 u6]] w0 fun v w' => v = .tuple #[.int .i64 (feeE fl rl cfee pl).1, .int .i64 (feeE fl rl cfee pl).2] := by
  refine fnc (N := 54) Try.func32 rfl rfl rfl ?_
  refine WC.seq ?_
  refine WC.region ?_
  refine SL.box rfl rfl rfl (fun b1 hb1 => ?_)
  refine SL.norm [_] rfl ?_
  refine SL.box rfl rfl rfl (fun b2 hb2 => ?_)
  refine SL.norm [_, _] rfl ?_
  refine SL.pure rfl rfl rfl (PureOp.assign rfl) ?_
  refine SL.pure rfl rfl rfl (PureOp.assign rfl) ?_
  refine SL.nil_then ?_
  refine WC.seq ?_
  refine WC.region ?_
  refine SL.pure rfl rfl rfl (PureOp.assign rfl) ?_
  refine SL.nil_then ?_
  refine WC.seq ?_
  refine WC.seq ?_
  refine WC.region ?_
  refine SL.pure rfl rfl rfl (PureOp.fieldAddrT 0 Try.underlying56 rfl sz53 rfl rfl) ?_
  refine SL.pure rfl rfl rfl (PureOp.load (v := .slice pao pn pcap) Try.underlying53 rfl rfl (fun _ => (CellIs.cells 1 rfl rfl))) ?_
  refine SL.pure rfl rfl rfl (PureOp.len rfl Try.underlying53) ?_
  refine SL.pure rfl rfl rfl (PureOp.move rfl) ?_
  refine SL.nil_then ?_
  refine WC.block ?_
  refine WC.loop (σ := Nat × Int) (fun q_ => [(0, 0, .agg #[.slice fao fn fcap, .slice rao rn rcap, .slice u1.ao u1.l.length u1.cap, .slice u2.ao u2.l.length u2.cap]), (1, 0, .agg #[.slice pao pn pcap, .slice u3.ao u3.l.length u3.cap, .slice u4.ao u4.l.length u4.cap, .int .i64 u5, .int .i64 u6]), (2, 0, .pointer (some ⟨b1, 0, none⟩)), (3, 0, .pointer (some ⟨b2, 0, none⟩)), (11, 0, .pointer (some ⟨b2, 0, none⟩)), (12, 0, .slice pao pn pcap), (13, 0, .int .i64 ((pn : Nat) : Int)), (14, 0, .int .i64 ((q_.1 : Nat) : Int)), (6, 0, .int .i64 q_.2)]) (fun q_ => [Item.cells b1 [.slice fao fn fcap, .slice rao rn rcap, .slice u1.ao u1.l.length u1.cap, .slice u2.ao u2.l.length u2.cap] 52, Item.cells b2 [.slice pao pn pcap, .slice u3.ao u3.l.length u3.cap, .slice u4.ao u4.l.length u4.cap, .int .i64 u5, .int .i64 u6] 56]) (fun q_ => q_.1 ≤ pn ∧ feeGo fl rl cfee q_.2 (pl.drop q_.1) = feeE fl rl cfee pl) (fun q_ => pn - q_.1) 2 ((0, 0)) (⟨Nat.zero_le _, rfl⟩) ⟨rfl, rfl, rfl, rfl, rfl, rfl, rfl, rfl, rfl, rfl, rfl, rfl, rfl, rfl, rfl, rfl, rfl, rfl, trivial⟩ rfl ?_
  rintro ⟨k, m⟩ ⟨hk, hs⟩
  try dsimp only at *
  refine WC.seq ?_
  refine WC.region ?_
  refine SL.pure rfl rfl rfl (PureOp.lss rfl rfl) ?_
  refine SL.nil_then ?_
  refine WC.seq ?_
  refine WC.cond rfl (fun h1 => ?_) (fun h1 => ?_)
  · try simp only [Bool.and_eq_true, Bool.or_eq_true, Bool.not_eq_true', Bool.not_eq_false', Bool.and_eq_false_iff, Bool.or_eq_false_iff, decide_eq_true_eq, decide_eq_false_iff_not, Int.not_lt, Int.not_le, ne_eq, Decidable.not_not] at h1
    refine WC.skip ?_
    refine QX.then_ ?_
    refine WC.seq ?_
    refine WC.block ?_
    refine WC.seq ?_
    refine WC.region ?_
    refine SL.pure rfl rfl rfl (PureOp.indexAddrN Try.underlying53 sz96 rfl rfl (AoOk.in_ hp) (fun _ => by omega)) ?_
    refine SL.pure rfl rfl rfl (PureOp.loads (vs := [.int .i64 ((nth pl k).1), .int .i64 ((nth pl k).2.1), .int .i64 ((nth pl k).2.2.1), .int .i64 ((nth pl k).2.2.2)]) Try.underlying96 rfl rfl (fun _ => (RowIs.in_ hp k 0 4 (by omega) (by omega))) sz96) ?_
    refine SL.alloc rfl rfl zero96 (fun b3 hb3 => ?_)
    refine SL.norm [_, _, _] rfl ?_
    refine SL.store 2 rfl rfl rfl rfl sz96 rfl rfl ?_
    refine SL.norm [_, _, _] rfl ?_
    refine SL.nil_then ?_
    refine WC.seq ?_
    refine WC.seq ?_
    refine WC.region ?_
    refine SL.pure rfl rfl rfl (PureOp.fieldAddrT 2 Try.underlying96 rfl sz3 rfl rfl) ?_
    refine SL.pure rfl rfl rfl (PureOp.load (v := .int .i64 ((nth pl k).2.2.1)) Try.underlying3 rfl rfl (fun _ => (CellIs.cells 2 rfl rfl))) ?_
    refine SL.pure rfl rfl rfl (PureOp.lss rfl rfl) ?_
    refine SL.pure rfl rfl rfl (PureOp.move rfl) ?_
    refine SL.newg 21 false rfl ?_
    refine SL.gpure (c := 1) rfl rfl rfl rfl rfl rfl rfl (PureOp.fieldAddrT 2 Try.underlying96 rfl sz3 rfl rfl) ?_
    refine SL.gpure (c := 1) rfl rfl rfl rfl rfl rfl rfl (PureOp.load (v := .int .i64 ((nth pl k).2.2.1)) Try.underlying3 rfl rfl (fun _ => (CellIs.cells 2 rfl rfl))) ?_
    refine SL.gpure (c := 1) rfl rfl rfl rfl rfl rfl rfl (PureOp.fieldAddrT 0 Try.underlying52 rfl sz47 rfl rfl) ?_
    refine SL.gpure (c := 1) rfl rfl rfl rfl rfl rfl rfl (PureOp.load (v := .slice fao fn fcap) Try.underlying47 rfl rfl (fun _ => (CellIs.cells 0 rfl rfl))) ?_
    refine SL.gpure (c := 1) rfl rfl rfl rfl rfl rfl rfl (PureOp.len rfl Try.underlying47) ?_
    refine SL.gpure (c := 1) rfl rfl rfl rfl rfl rfl rfl (PureOp.geq rfl rfl) ?_
    refine SL.pure rfl rfl rfl (PureOp.or_ rfl rfl rfl rfl) ?_
    refine SL.nil_then ?_
    refine WC.cond rfl (fun h2 => ?_) (fun h2 => ?_)
    · try simp only [Bool.and_eq_true, Bool.or_eq_true, Bool.not_eq_true', Bool.not_eq_false', Bool.and_eq_false_iff, Bool.or_eq_false_iff, decide_eq_true_eq, decide_eq_false_iff_not, Int.not_lt, Int.not_le, ne_eq, Decidable.not_not] at h2
      refine WC.seq ?_
      refine WC.region ?_
      refine SL.pure rfl rfl rfl (PureOp.assign rfl) ?_
      refine SL.pure rfl rfl rfl (PureOp.assign rfl) ?_
      refine SL.nil_then ?_
      refine WC.ret ?_
      refine QX.ret_then ?_
      refine QX.ret_in ?_
      refine QX.ret_then ?_
      refine QX.ret_then ?_
      refine QX.ret_in ?_
      refine QX.ret_then ?_
      refine QX.ret2 rfl rfl rfl ?_
      intro w hw
      rw [feeGo_drop (by omega), if_pos (by omega)] at hs
      rw [← hs]
    · try simp only [Bool.and_eq_true, Bool.or_eq_true, Bool.not_eq_true', Bool.not_eq_false', Bool.and_eq_false_iff, Bool.or_eq_false_iff, decide_eq_true_eq, decide_eq_false_iff_not, Int.not_lt, Int.not_le, ne_eq, Decidable.not_not] at h2
      refine WC.skip ?_
      refine QX.then_ ?_
      refine WC.seq ?_
      refine WC.drawH 15 [false, false, false, false, false, false, false, false, false, false, false, false, false, false, false] rfl rfl rfl ?_
      refine SD.take 0 [true, false, false, false, false, false, false, false, false, false, false, false, false, false, false] rfl (by kernel_rfl) rfl (fun _ h => h) rfl rfl rfl (PureOp.loads (vs := [.slice fao fn fcap, .slice rao rn rcap, .slice u1.ao u1.l.length u1.cap, .slice u2.ao u2.l.length u2.cap]) Try.underlying52 rfl rfl (fun _ => (RowIs.cells 0 0 4 rfl rfl)) sz52) ?_
      refine SD.take 1 [true, true, false, false, false, false, false, false, false, false, false, false, false, false, false] rfl (by kernel_rfl) rfl (fun _ h => h) rfl rfl rfl (PureOp.fieldAddrT 0 Try.underlying52 rfl sz47 rfl rfl) ?_
      refine SD.take 2 [true, true, true, false, false, false, false, false, false, false, false, false, false, false, false] rfl (by kernel_rfl) rfl (fun _ h => h) rfl rfl rfl (PureOp.load (v := .slice fao fn fcap) Try.underlying47 rfl rfl (fun _ => (CellIs.cells 0 rfl rfl))) ?_
      refine SD.take 3 [true, true, true, true, false, false, false, false, false, false, false, false, false, false, false] rfl (by kernel_rfl) rfl (fun _ h => h) rfl rfl rfl (PureOp.fieldAddrT 2 Try.underlying96 rfl sz3 rfl rfl) ?_
      refine SD.take 4 [true, true, true, true, true, false, false, false, false, false, false, false, false, false, false] rfl (by kernel_rfl) rfl (fun _ h => h) rfl rfl rfl (PureOp.load (v := .int .i64 ((nth pl k).2.2.1)) Try.underlying3 rfl rfl (fun _ => (CellIs.cells 2 rfl rfl))) ?_
      refine SD.take 5 [true, true, true, true, true, true, false, false, false, false, false, false, false, false, false] rfl (by kernel_rfl) rfl (fun _ h => h) rfl rfl rfl (PureOp.indexAddr Try.underlying47 sz94 rfl rfl (AoOk.in_ hf) (fun _ => by omega)) ?_
      refine SD.take 6 [true, true, true, true, true, true, true, false, false, false, false, false, false, false, false] rfl (by kernel_rfl) rfl (fun _ h => h) rfl rfl rfl (PureOp.fieldAddr 7 Try.underlying94 rfl rfl sz3 rfl) ?_
      refine SD.take 7 [true, true, true, true, true, true, true, true, false, false, false, false, false, false, false] rfl (by kernel_rfl) rfl (fun _ h => h) rfl rfl rfl (PureOp.load (v := .int .i64 ((nth fl (((nth pl k).2.2.1).toNat)).2.2.2.2.2.2.2.1)) Try.underlying3 rfl rfl (fun _ => (CellIs.in_ hf (((nth pl k).2.2.1).toNat) 7 (by omega) (by omega)))) ?_
      refine SD.all [8, 12] (by kernel_rfl) (by simp) ⟨⟨_, [true, true, true, true, true, true, true, true, true, false, false, false, false, false, false], rfl, rfl, ?_⟩, ⟨_, [true, true, true, true, true, true, true, true, false, false, false, false, true, false, false], rfl, rfl, ?_⟩, trivial⟩
      · skip
        refine SL.calle rfl rfl rfl rfl rfl rfl callable46 (fun w hw => rule_ok u1 u2 fl rl fao rao fn fcap rn rcap hfn hrn w (hf.below hw.below) (hr.below hw.below) hfb hrb _) ?_
        refine SL.norm [_, _, _] rfl ?_
        refine SD.back (fun _ h => h) ?_
        refine SD.take 9 [true, true, true, true, true, true, true, true, true, true, false, false, false, false, false] rfl (by kernel_rfl) rfl (fun _ h => h) rfl rfl rfl (PureOp.move rfl) ?_
        refine SD.take 10 [true, true, true, true, true, true, true, true, true, true, true, false, false, false, false] rfl (by kernel_rfl) rfl (fun _ h => h) rfl rfl rfl (PureOp.extract rfl rfl) ?_
        refine SD.take 11 [true, true, true, true, true, true, true, true, true, true, true, true, false, false, false] rfl (by kernel_rfl) rfl (fun _ h => h) rfl rfl rfl (PureOp.extract rfl rfl) ?_
        refine SD.one 12 [true, true, true, true, true, true, true, true, true, true, true, true, true, false, false] (by kernel_rfl) rfl rfl ?_
        refine SL.alloc rfl rfl zero92 (fun b4 hb4 => ?_)
        refine SL.norm [_, _, _, _] rfl ?_
        refine SD.back (fun _ h => HeapOk.take h 3) ?_
        refine SD.one 13 [true, true, true, true, true, true, true, true, true, true, true, true, true, true, false] (by kernel_rfl) rfl rfl ?_
        refine SL.store 3 rfl rfl rfl rfl sz92 rfl rfl ?_
        refine SL.norm [_, _, _, _] rfl ?_
        refine SD.back (fun _ h => HeapOk.take h 3) ?_
        refine SD.take 14 [true, true, true, true, true, true, true, true, true, true, true, true, true, true, true] rfl (by kernel_rfl) rfl (fun _ h => HeapOk.take h 3) rfl rfl rfl (PureOp.assign rfl) ?_
        refine SD.done (by kernel_rfl) ?_
        refine QX.ofK ?_
        refine QX.then_ ?_
        refine WC.seq ?_
        refine WC.seq ?_
        refine WC.region ?_
        refine SL.pure rfl rfl rfl (PureOp.move rfl) ?_
        refine SL.pure rfl rfl rfl (PureOp.not rfl) ?_
        refine SL.pure rfl rfl rfl (PureOp.move rfl) ?_
        refine SL.newg 43 false rfl ?_
        refine SL.gpure (c := 2) rfl rfl rfl rfl rfl rfl rfl (PureOp.fieldAddrT 12 Try.underlying92 rfl sz3 rfl rfl) ?_
        refine SL.gpure (c := 2) rfl rfl rfl rfl rfl rfl rfl (PureOp.load (v := .int .i64 ((ruleE rl (nth fl (nth pl k).2.2.1.toNat).2.2.2.2.2.2.2.1).1.2.2.2.2.2.1)) Try.underlying3 rfl rfl (fun _ => (CellIs.cells 3 rfl rfl))) ?_
        refine SL.gpure (c := 2) rfl rfl rfl rfl rfl rfl rfl (PureOp.lss rfl rfl) ?_
        refine SL.pure rfl rfl rfl (PureOp.or_ rfl rfl rfl rfl) ?_
        refine SL.nil_then ?_
        refine WC.cond rfl (fun h3 => ?_) (fun h3 => ?_)
        · try simp only [Bool.and_eq_true, Bool.or_eq_true, Bool.not_eq_true', Bool.not_eq_false', Bool.and_eq_false_iff, Bool.or_eq_false_iff, decide_eq_true_eq, decide_eq_false_iff_not, Int.not_lt, Int.not_le, ne_eq, Decidable.not_not] at h3
          refine WC.seq ?_
          refine WC.region ?_
          refine SL.pure rfl rfl rfl (PureOp.assign rfl) ?_
          refine SL.pure rfl rfl rfl (PureOp.assign rfl) ?_
          refine SL.nil_then ?_
          refine WC.ret ?_
          refine QX.ret_then ?_
          refine QX.ret_in ?_
          refine QX.ret_then ?_
          refine QX.ret_then ?_
          refine QX.ret_in ?_
          refine QX.ret_then ?_
          refine QX.ret2 rfl rfl rfl ?_
          intro w hw
          rw [feeGo_drop (by omega), if_neg (by omega), if_pos (by simpa using h3)] at hs
          rw [← hs]
        · try simp only [Bool.and_eq_true, Bool.or_eq_true, Bool.not_eq_true', Bool.not_eq_false', Bool.and_eq_false_iff, Bool.or_eq_false_iff, decide_eq_true_eq, decide_eq_false_iff_not, Int.not_lt, Int.not_le, ne_eq, Decidable.not_not] at h3
          refine WC.skip ?_
          refine QX.then_ ?_
          refine WC.region ?_
          refine SL.pure rfl rfl rfl (PureOp.move rfl) ?_
          refine SL.pure rfl rfl rfl (PureOp.fieldAddrT 12 Try.underlying92 rfl sz3 rfl rfl) ?_
          refine SL.pure rfl rfl rfl (PureOp.load (v := .int .i64 ((ruleE rl (nth fl (nth pl k).2.2.1.toNat).2.2.2.2.2.2.2.1).1.2.2.2.2.2.1)) Try.underlying3 rfl rfl (fun _ => (CellIs.cells 3 rfl rfl))) ?_
          refine SL.pure rfl rfl rfl (PureOp.max_ rfl rfl) ?_
          refine SL.pure rfl rfl rfl (PureOp.assign rfl) ?_
          refine SL.nil ?_
          refine QX.normal_in ?_
          refine QX.then_ ?_
          refine WC.region ?_
          refine SL.pure rfl rfl rfl (PureOp.addN (k := 1) rfl rfl (fun _ => by omega)) ?_
          refine SL.pure rfl rfl rfl (PureOp.move rfl) ?_
          refine SL.nil ?_
          refine QX.round (σ := Nat × Int) (Ef := fun q_ => [(0, 0, .agg #[.slice fao fn fcap, .slice rao rn rcap, .slice u1.ao u1.l.length u1.cap, .slice u2.ao u2.l.length u2.cap]), (1, 0, .agg #[.slice pao pn pcap, .slice u3.ao u3.l.length u3.cap, .slice u4.ao u4.l.length u4.cap, .int .i64 u5, .int .i64 u6]), (2, 0, .pointer (some ⟨b1, 0, none⟩)), (3, 0, .pointer (some ⟨b2, 0, none⟩)), (11, 0, .pointer (some ⟨b2, 0, none⟩)), (12, 0, .slice pao pn pcap), (13, 0, .int .i64 ((pn : Nat) : Int)), (14, 0, .int .i64 ((q_.1 : Nat) : Int)), (6, 0, .int .i64 q_.2)]) (Hf := fun q_ => [Item.cells b1 [.slice fao fn fcap, .slice rao rn rcap, .slice u1.ao u1.l.length u1.cap, .slice u2.ao u2.l.length u2.cap] 52, Item.cells b2 [.slice pao pn pcap, .slice u3.ao u3.l.length u3.cap, .slice u4.ao u4.l.length u4.cap, .int .i64 u5, .int .i64 u6] 56]) (I := fun q_ => q_.1 ≤ pn ∧ feeGo fl rl cfee q_.2 (pl.drop q_.1) = feeE fl rl cfee pl) (μ := fun q_ => pn - q_.1) (s := (k, m)) 2 ((k + 1, max m (cfee (ruleE rl (nth fl (nth pl k).2.2.1.toNat).2.2.2.2.2.2.2.1).1))) ⟨⟨(by first | omega | (dsimp only; omega)), by rw [feeGo_drop (by omega), if_neg (by omega), if_neg (by simpa using h3)] at hs; exact hs⟩, by first | omega | (dsimp only; omega)⟩ ⟨rfl, rfl, rfl, rfl, rfl, rfl, rfl, rfl, rfl, rfl, rfl, rfl, rfl, rfl, rfl, rfl, rfl, rfl, trivial⟩ rfl
      · skip
        refine SL.alloc rfl rfl zero92 (fun b5 hb5 => ?_)
        refine SL.norm [_, _, _, _] rfl ?_
        refine SD.back (fun _ h => HeapOk.take h 3) ?_
        refine SD.one 8 [true, true, true, true, true, true, true, true, true, false, false, false, true, false, false] (by kernel_rfl) rfl rfl ?_
        refine SL.calle rfl rfl rfl rfl rfl rfl callable46 (fun w hw => rule_ok u1 u2 fl rl fao rao fn fcap rn rcap hfn hrn w (hf.below hw.below) (hr.below hw.below) hfb hrb _) ?_
        refine SL.norm [_, _, _, _] rfl ?_
        refine SD.back (fun _ h => HeapOk.take h 3) ?_
        refine SD.take 9 [true, true, true, true, true, true, true, true, true, true, false, false, true, false, false] rfl (by kernel_rfl) rfl (fun _ h => HeapOk.take h 3) rfl rfl rfl (PureOp.move rfl) ?_
        refine SD.take 10 [true, true, true, true, true, true, true, true, true, true, true, false, true, false, false] rfl (by kernel_rfl) rfl (fun _ h => HeapOk.take h 3) rfl rfl rfl (PureOp.extract rfl rfl) ?_
        refine SD.take 11 [true, true, true, true, true, true, true, true, true, true, true, true, true, false, false] rfl (by kernel_rfl) rfl (fun _ h => HeapOk.take h 3) rfl rfl rfl (PureOp.extract rfl rfl) ?_
        refine SD.one 13 [true, true, true, true, true, true, true, true, true, true, true, true, true, true, false] (by kernel_rfl) rfl rfl ?_
        refine SL.store 3 rfl rfl rfl rfl sz92 rfl rfl ?_
        refine SL.norm [_, _, _, _] rfl ?_
        refine SD.back (fun _ h => HeapOk.take h 3) ?_
        refine SD.take 14 [true, true, true, true, true, true, true, true, true, true, true, true, true, true, true] rfl (by kernel_rfl) rfl (fun _ h => HeapOk.take h 3) rfl rfl rfl (PureOp.assign rfl) ?_
        refine SD.done (by kernel_rfl) ?_
        refine QX.ofK ?_
        refine QX.then_ ?_
        refine WC.seq ?_
        refine WC.seq ?_
        refine WC.region ?_
        refine SL.pure rfl rfl rfl (PureOp.move rfl) ?_
        refine SL.pure rfl rfl rfl (PureOp.not rfl) ?_
        refine SL.pure rfl rfl rfl (PureOp.move rfl) ?_
        refine SL.newg 43 false rfl ?_
        refine SL.gpure (c := 2) rfl rfl rfl rfl rfl rfl rfl (PureOp.fieldAddrT 12 Try.underlying92 rfl sz3 rfl rfl) ?_
        refine SL.gpure (c := 2) rfl rfl rfl rfl rfl rfl rfl (PureOp.load (v := .int .i64 ((ruleE rl (nth fl (nth pl k).2.2.1.toNat).2.2.2.2.2.2.2.1).1.2.2.2.2.2.1)) Try.underlying3 rfl rfl (fun _ => (CellIs.cells 3 rfl rfl))) ?_
        refine SL.gpure (c := 2) rfl rfl rfl rfl rfl rfl rfl (PureOp.lss rfl rfl) ?_
        refine SL.pure rfl rfl rfl (PureOp.or_ rfl rfl rfl rfl) ?_
        refine SL.nil_then ?_
        refine WC.cond rfl (fun h4 => ?_) (fun h4 => ?_)
        · try simp only [Bool.and_eq_true, Bool.or_eq_true, Bool.not_eq_true', Bool.not_eq_false', Bool.and_eq_false_iff, Bool.or_eq_false_iff, decide_eq_true_eq, decide_eq_false_iff_not, Int.not_lt, Int.not_le, ne_eq, Decidable.not_not] at h4
          refine WC.seq ?_
          refine WC.region ?_
          refine SL.pure rfl rfl rfl (PureOp.assign rfl) ?_
          refine SL.pure rfl rfl rfl (PureOp.assign rfl) ?_
          refine SL.nil_then ?_
          refine WC.ret ?_
          refine QX.ret_then ?_
          refine QX.ret_in ?_
          refine QX.ret_then ?_
          refine QX.ret_then ?_
          refine QX.ret_in ?_
          refine QX.ret_then ?_
          refine QX.ret2 rfl rfl rfl ?_
          intro w hw
          rw [feeGo_drop (by omega), if_neg (by omega), if_pos (by simpa using h4)] at hs
          rw [← hs]
        · try simp only [Bool.and_eq_true, Bool.or_eq_true, Bool.not_eq_true', Bool.not_eq_false', Bool.and_eq_false_iff, Bool.or_eq_false_iff, decide_eq_true_eq, decide_eq_false_iff_not, Int.not_lt, Int.not_le, ne_eq, Decidable.not_not] at h4
          refine WC.skip ?_
          refine QX.then_ ?_
          refine WC.region ?_
          refine SL.pure rfl rfl rfl (PureOp.move rfl) ?_
          refine SL.pure rfl rfl rfl (PureOp.fieldAddrT 12 Try.underlying92 rfl sz3 rfl rfl) ?_
          refine SL.pure rfl rfl rfl (PureOp.load (v := .int .i64 ((ruleE rl (nth fl (nth pl k).2.2.1.toNat).2.2.2.2.2.2.2.1).1.2.2.2.2.2.1)) Try.underlying3 rfl rfl (fun _ => (CellIs.cells 3 rfl rfl))) ?_
          refine SL.pure rfl rfl rfl (PureOp.max_ rfl rfl) ?_
          refine SL.pure rfl rfl rfl (PureOp.assign rfl) ?_
          refine SL.nil ?_
          refine QX.normal_in ?_
          refine QX.then_ ?_
          refine WC.region ?_
          refine SL.pure rfl rfl rfl (PureOp.addN (k := 1) rfl rfl (fun _ => by omega)) ?_
          refine SL.pure rfl rfl rfl (PureOp.move rfl) ?_
          refine SL.nil ?_
          refine QX.round (σ := Nat × Int) (Ef := fun q_ => [(0, 0, .agg #[.slice fao fn fcap, .slice rao rn rcap, .slice u1.ao u1.l.length u1.cap, .slice u2.ao u2.l.length u2.cap]), (1, 0, .agg #[.slice pao pn pcap, .slice u3.ao u3.l.length u3.cap, .slice u4.ao u4.l.length u4.cap, .int .i64 u5, .int .i64 u6]), (2, 0, .pointer (some ⟨b1, 0, none⟩)), (3, 0, .pointer (some ⟨b2, 0, none⟩)), (11, 0, .pointer (some ⟨b2, 0, none⟩)), (12, 0, .slice pao pn pcap), (13, 0, .int .i64 ((pn : Nat) : Int)), (14, 0, .int .i64 ((q_.1 : Nat) : Int)), (6, 0, .int .i64 q_.2)]) (Hf := fun q_ => [Item.cells b1 [.slice fao fn fcap, .slice rao rn rcap, .slice u1.ao u1.l.length u1.cap, .slice u2.ao u2.l.length u2.cap] 52, Item.cells b2 [.slice pao pn pcap, .slice u3.ao u3.l.length u3.cap, .slice u4.ao u4.l.length u4.cap, .int .i64 u5, .int .i64 u6] 56]) (I := fun q_ => q_.1 ≤ pn ∧ feeGo fl rl cfee q_.2 (pl.drop q_.1) = feeE fl rl cfee pl) (μ := fun q_ => pn - q_.1) (s := (k, m)) 2 ((k + 1, max m (cfee (ruleE rl (nth fl (nth pl k).2.2.1.toNat).2.2.2.2.2.2.2.1).1))) ⟨⟨(by first | omega | (dsimp only; omega)), by rw [feeGo_drop (by omega), if_neg (by omega), if_neg (by simpa using h4)] at hs; exact hs⟩, by first | omega | (dsimp only; omega)⟩ ⟨rfl, rfl, rfl, rfl, rfl, rfl, rfl, rfl, rfl, rfl, rfl, rfl, rfl, rfl, rfl, rfl, rfl, rfl, trivial⟩ rfl
  · try simp only [Bool.and_eq_true, Bool.or_eq_true, Bool.not_eq_true', Bool.not_eq_false', Bool.and_eq_false_iff, Bool.or_eq_false_iff, decide_eq_true_eq, decide_eq_false_iff_not, Int.not_lt, Int.not_le, ne_eq, Decidable.not_not] at h1
    refine WC.exit ?_
    refine QX.exit_then ?_
    refine QX.exit_then ?_
    refine QX.exit_hit ?_
    refine QX.then_ ?_
    refine WC.seq ?_
    refine WC.region ?_
    refine SL.pure rfl rfl rfl (PureOp.move rfl) ?_
    refine SL.pure rfl rfl rfl (PureOp.assign rfl) ?_
    refine SL.pure rfl rfl rfl (PureOp.assign rfl) ?_
    refine SL.nil_then ?_
    refine WC.ret ?_
    refine QX.ret2 rfl rfl rfl ?_
    intro w hw
    rw [feeGo_end (by omega)] at hs
    rw [← hs]

set_option maxHeartbeats 4000000 in
set_option maxRecDepth 100000 in
theorem rxfee_ok (u1 u2 : SliceV Unit) (fl : List Fa) (rl : List Ru) (fao rao : Option Addr) (fn fcap rn rcap : Nat) (hfn : fn = fl.length) (hrn : rn = rl.length) (w0 : World) (hf : SliceIn w0 9 fao fn fcap (rowsF enc94 fl)) (hr : SliceIn w0 15 rao rn rcap (rowsF enc92 rl)) (hfb : fn ≤ 1000) (hrb : rn ≤ 1000) (u3 : SliceV Unit) (u4 : SliceV Ch) (u5 u6 : Int) (pl : List Pa) (pao : Option Addr) (pn pcap : Nat) (hpn : pn = pl.length) (hp : SliceIn w0 4 pao pn pcap (rowsF enc96 pl)) (hpb : pn ≤ 1000) : FnC Try.prog 33 [.agg #[.slice fao fn fcap, .slice rao rn rcap, .slice u1.ao u1.l.length u1.cap, .slice u2.ao u2.l.length u2.cap], .agg #[.slice pao pn pcap, .slice u3.ao u3.l.length u3.cap, .slice u4.ao u4.l.length u4.cap, .int .i64 u5, .int .i64 u6]] w0 fun v w' => v = .tuple #[.int .i64 (feeE fl rl cfee pl).1, .int .i64 (feeE fl rl cfee pl).2] := by
  refine fnc (N := 56) Try.func33 rfl rfl rfl ?_
  refine WC.seq ?_
  refine WC.region ?_
  refine SL.box rfl rfl rfl (fun b1 hb1 => ?_)
  refine SL.norm [_] rfl ?_
  refine SL.box rfl rfl rfl (fun b2 hb2 => ?_)
  refine SL.norm [_, _] rfl ?_
  refine SL.pure rfl rfl rfl (PureOp.assign rfl) ?_
  refine SL.pure rfl rfl rfl (PureOp.assign rfl) ?_
  refine SL.nil_then ?_
  refine WC.seq ?_
  refine WC.region ?_
  refine SL.pure rfl rfl rfl (PureOp.assign rfl) ?_
  refine SL.nil_then ?_
  refine WC.seq ?_
  refine WC.seq ?_
  refine WC.region ?_
  refine SL.pure rfl rfl rfl (PureOp.assign rfl) ?_
  refine SL.nil_then ?_
  refine WC.block ?_
  refine WC.loop (σ := Nat × Int) (fun q_ => [(0, 0, .agg #[.slice fao fn fcap, .slice rao rn rcap, .slice u1.ao u1.l.length u1.cap, .slice u2.ao u2.l.length u2.cap]), (1, 0, .agg #[.slice pao pn pcap, .slice u3.ao u3.l.length u3.cap, .slice u4.ao u4.l.length u4.cap, .int .i64 u5, .int .i64 u6]), (2, 0, .pointer (some ⟨b1, 0, none⟩)), (3, 0, .pointer (some ⟨b2, 0, none⟩)), (7, 0, .int .i64 ((q_.1 : Nat) : Int)), (6, 0, .int .i64 q_.2)]) (fun q_ => [Item.cells b1 [.slice fao fn fcap, .slice rao rn rcap, .slice u1.ao u1.l.length u1.cap, .slice u2.ao u2.l.length u2.cap] 52, Item.cells b2 [.slice pao pn pcap, .slice u3.ao u3.l.length u3.cap, .slice u4.ao u4.l.length u4.cap, .int .i64 u5, .int .i64 u6] 56]) (fun q_ => q_.1 ≤ pn ∧ feeGo fl rl cfee q_.2 (pl.drop q_.1) = feeE fl rl cfee pl) (fun q_ => pn - q_.1) 2 ((0, 0)) (⟨Nat.zero_le _, rfl⟩) ⟨rfl, rfl, rfl, rfl, rfl, rfl, rfl, rfl, rfl, rfl, rfl, rfl, trivial⟩ rfl ?_
  rintro ⟨k, m⟩ ⟨hk, hs⟩
  try dsimp only at *
  refine WC.seq ?_
  refine WC.seq ?_
  refine WC.region ?_
  refine SL.pure rfl rfl rfl (PureOp.move rfl) ?_
  refine SL.pure rfl rfl rfl (PureOp.fieldAddrT 0 Try.underlying56 rfl sz53 rfl rfl) ?_
  refine SL.pure rfl rfl rfl (PureOp.load (v := .slice pao pn pcap) Try.underlying53 rfl rfl (fun _ => (CellIs.cells 1 rfl rfl))) ?_
  refine SL.pure rfl rfl rfl (PureOp.len rfl Try.underlying53) ?_
  refine SL.pure rfl rfl rfl (PureOp.lss rfl rfl) ?_
  refine SL.nil_then ?_
  refine WC.cond rfl (fun h1 => ?_) (fun h1 => ?_)
  · try simp only [Bool.and_eq_true, Bool.or_eq_true, Bool.not_eq_true', Bool.not_eq_false', Bool.and_eq_false_iff, Bool.or_eq_false_iff, decide_eq_true_eq, decide_eq_false_iff_not, Int.not_lt, Int.not_le, ne_eq, Decidable.not_not] at h1
    refine WC.skip ?_
    refine QX.then_ ?_
    refine WC.seq ?_
    refine WC.block ?_
    refine WC.seq ?_
    refine WC.region ?_
    refine SL.pure rfl rfl rfl (PureOp.fieldAddrT 0 Try.underlying56 rfl sz53 rfl rfl) ?_
    refine SL.pure rfl rfl rfl (PureOp.load (v := .slice pao pn pcap) Try.underlying53 rfl rfl (fun _ => (CellIs.cells 1 rfl rfl))) ?_
    refine SL.pure rfl rfl rfl (PureOp.move rfl) ?_
    refine SL.pure rfl rfl rfl (PureOp.indexAddrN Try.underlying53 sz96 rfl rfl (AoOk.in_ hp) (fun _ => by omega)) ?_
    refine SL.pure rfl rfl rfl (PureOp.fieldAddr 2 Try.underlying96 rfl rfl sz3 rfl) ?_
    refine SL.pure rfl rfl rfl (PureOp.load (v := .int .i64 ((nth pl k).2.2.1)) Try.underlying3 rfl rfl (fun _ => (CellIs.in_ hp k 2 (by omega) (by omega)))) ?_
    refine SL.pure rfl rfl rfl (PureOp.assign rfl) ?_
    refine SL.nil_then ?_
    refine WC.seq ?_
    refine WC.seq ?_
    refine WC.region ?_
    refine SL.pure rfl rfl rfl (PureOp.move rfl) ?_
    refine SL.pure rfl rfl rfl (PureOp.lss rfl rfl) ?_
    refine SL.pure rfl rfl rfl (PureOp.move rfl) ?_
    refine SL.newg 26 false rfl ?_
    refine SL.gpure (c := 1) rfl rfl rfl rfl rfl rfl rfl (PureOp.move rfl) ?_
    refine SL.gpure (c := 1) rfl rfl rfl rfl rfl rfl rfl (PureOp.fieldAddrT 0 Try.underlying52 rfl sz47 rfl rfl) ?_
    refine SL.gpure (c := 1) rfl rfl rfl rfl rfl rfl rfl (PureOp.load (v := .slice fao fn fcap) Try.underlying47 rfl rfl (fun _ => (CellIs.cells 0 rfl rfl))) ?_
    refine SL.gpure (c := 1) rfl rfl rfl rfl rfl rfl rfl (PureOp.len rfl Try.underlying47) ?_
    refine SL.gpure (c := 1) rfl rfl rfl rfl rfl rfl rfl (PureOp.geq rfl rfl) ?_
    refine SL.pure rfl rfl rfl (PureOp.or_ rfl rfl rfl rfl) ?_
    refine SL.nil_then ?_
    refine WC.cond rfl (fun h2 => ?_) (fun h2 => ?_)
    · try simp only [Bool.and_eq_true, Bool.or_eq_true, Bool.not_eq_true', Bool.not_eq_false', Bool.and_eq_false_iff, Bool.or_eq_false_iff, decide_eq_true_eq, decide_eq_false_iff_not, Int.not_lt, Int.not_le, ne_eq, Decidable.not_not] at h2
      refine WC.seq ?_
      refine WC.region ?_
      refine SL.pure rfl rfl rfl (PureOp.assign rfl) ?_
      refine SL.pure rfl rfl rfl (PureOp.assign rfl) ?_
      refine SL.nil_then ?_
      refine WC.ret ?_
      refine QX.ret_then ?_
      refine QX.ret_in ?_
      refine QX.ret_then ?_
      refine QX.ret_then ?_
      refine QX.ret_in ?_
      refine QX.ret_then ?_
      refine QX.ret2 rfl rfl rfl ?_
      intro w hw
      rw [feeGo_drop (by omega), if_pos (by omega)] at hs
      rw [← hs]
    · try simp only [Bool.and_eq_true, Bool.or_eq_true, Bool.not_eq_true', Bool.not_eq_false', Bool.and_eq_false_iff, Bool.or_eq_false_iff, decide_eq_true_eq, decide_eq_false_iff_not, Int.not_lt, Int.not_le, ne_eq, Decidable.not_not] at h2
      refine WC.skip ?_
      refine QX.then_ ?_
      refine WC.seq ?_
      refine WC.drawH 14 [false, false, false, false, false, false, false, false, false, false, false, false, false, false] rfl rfl rfl ?_
      refine SD.take 0 [true, false, false, false, false, false, false, false, false, false, false, false, false, false] rfl (by kernel_rfl) rfl (fun _ h => h) rfl rfl rfl (PureOp.loads (vs := [.slice fao fn fcap, .slice rao rn rcap, .slice u1.ao u1.l.length u1.cap, .slice u2.ao u2.l.length u2.cap]) Try.underlying52 rfl rfl (fun _ => (RowIs.cells 0 0 4 rfl rfl)) sz52) ?_
      refine SD.take 1 [true, true, false, false, false, false, false, false, false, false, false, false, false, false] rfl (by kernel_rfl) rfl (fun _ h => h) rfl rfl rfl (PureOp.fieldAddrT 0 Try.underlying52 rfl sz47 rfl rfl) ?_
      refine SD.take 2 [true, true, true, false, false, false, false, false, false, false, false, false, false, false] rfl (by kernel_rfl) rfl (fun _ h => h) rfl rfl rfl (PureOp.load (v := .slice fao fn fcap) Try.underlying47 rfl rfl (fun _ => (CellIs.cells 0 rfl rfl))) ?_
      refine SD.take 3 [true, true, true, true, false, false, false, false, false, false, false, false, false, false] rfl (by kernel_rfl) rfl (fun _ h => h) rfl rfl rfl (PureOp.move rfl) ?_
      refine SD.take 4 [true, true, true, true, true, false, false, false, false, false, false, false, false, false] rfl (by kernel_rfl) rfl (fun _ h => h) rfl rfl rfl (PureOp.indexAddr Try.underlying47 sz94 rfl rfl (AoOk.in_ hf) (fun _ => by omega)) ?_
      refine SD.take 5 [true, true, true, true, true, true, false, false, false, false, false, false, false, false] rfl (by kernel_rfl) rfl (fun _ h => h) rfl rfl rfl (PureOp.fieldAddr 7 Try.underlying94 rfl rfl sz3 rfl) ?_
      refine SD.take 6 [true, true, true, true, true, true, true, false, false, false, false, false, false, false] rfl (by kernel_rfl) rfl (fun _ h => h) rfl rfl rfl (PureOp.load (v := .int .i64 ((nth fl (((nth pl k).2.2.1).toNat)).2.2.2.2.2.2.2.1)) Try.underlying3 rfl rfl (fun _ => (CellIs.in_ hf (((nth pl k).2.2.1).toNat) 7 (by omega) (by omega)))) ?_
      refine SD.all [7, 11] (by kernel_rfl) (by simp) ⟨⟨_, [true, true, true, true, true, true, true, true, false, false, false, false, false, false], rfl, rfl, ?_⟩, ⟨_, [true, true, true, true, true, true, true, false, false, false, false, true, false, false], rfl, rfl, ?_⟩, trivial⟩
      · skip
        refine SL.calle rfl rfl rfl rfl rfl rfl callable47 (fun w hw => rrule_ok u1 u2 fl rl fao rao fn fcap rn rcap hfn hrn w (hf.below hw.below) (hr.below hw.below) hfb hrb _) ?_
        refine SL.norm [_, _] rfl ?_
        refine SD.back (fun _ h => h) ?_
        refine SD.take 8 [true, true, true, true, true, true, true, true, true, false, false, false, false, false] rfl (by kernel_rfl) rfl (fun _ h => h) rfl rfl rfl (PureOp.move rfl) ?_
        refine SD.take 9 [true, true, true, true, true, true, true, true, true, true, false, false, false, false] rfl (by kernel_rfl) rfl (fun _ h => h) rfl rfl rfl (PureOp.extract rfl rfl) ?_
        refine SD.take 10 [true, true, true, true, true, true, true, true, true, true, true, false, false, false] rfl (by kernel_rfl) rfl (fun _ h => h) rfl rfl rfl (PureOp.extract rfl rfl) ?_
        refine SD.one 11 [true, true, true, true, true, true, true, true, true, true, true, true, false, false] (by kernel_rfl) rfl rfl ?_
        refine SL.alloc rfl rfl zero92 (fun b3 hb3 => ?_)
        refine SL.norm [_, _, _] rfl ?_
        refine SD.back (fun _ h => HeapOk.take h 2) ?_
        refine SD.one 12 [true, true, true, true, true, true, true, true, true, true, true, true, true, false] (by kernel_rfl) rfl rfl ?_
        refine SL.store 2 rfl rfl rfl rfl sz92 rfl rfl ?_
        refine SL.norm [_, _, _] rfl ?_
        refine SD.back (fun _ h => HeapOk.take h 2) ?_
        refine SD.take 13 [true, true, true, true, true, true, true, true, true, true, true, true, true, true] rfl (by kernel_rfl) rfl (fun _ h => HeapOk.take h 2) rfl rfl rfl (PureOp.assign rfl) ?_
        refine SD.done (by kernel_rfl) ?_
        refine QX.ofK ?_
        refine QX.then_ ?_
        refine WC.seq ?_
        refine WC.seq ?_
        refine WC.region ?_
        refine SL.pure rfl rfl rfl (PureOp.move rfl) ?_
        refine SL.pure rfl rfl rfl (PureOp.not rfl) ?_
        refine SL.pure rfl rfl rfl (PureOp.move rfl) ?_
        refine SL.newg 46 false rfl ?_
        refine SL.gpure (c := 2) rfl rfl rfl rfl rfl rfl rfl (PureOp.fieldAddrT 12 Try.underlying92 rfl sz3 rfl rfl) ?_
        refine SL.gpure (c := 2) rfl rfl rfl rfl rfl rfl rfl (PureOp.load (v := .int .i64 ((ruleE rl (nth fl (nth pl k).2.2.1.toNat).2.2.2.2.2.2.2.1).1.2.2.2.2.2.1)) Try.underlying3 rfl rfl (fun _ => (CellIs.cells 2 rfl rfl))) ?_
        refine SL.gpure (c := 2) rfl rfl rfl rfl rfl rfl rfl (PureOp.lss rfl rfl) ?_
        refine SL.pure rfl rfl rfl (PureOp.or_ rfl rfl rfl rfl) ?_
        refine SL.nil_then ?_
        refine WC.cond rfl (fun h3 => ?_) (fun h3 => ?_)
        · try simp only [Bool.and_eq_true, Bool.or_eq_true, Bool.not_eq_true', Bool.not_eq_false', Bool.and_eq_false_iff, Bool.or_eq_false_iff, decide_eq_true_eq, decide_eq_false_iff_not, Int.not_lt, Int.not_le, ne_eq, Decidable.not_not] at h3
          refine WC.seq ?_
          refine WC.region ?_
          refine SL.pure rfl rfl rfl (PureOp.assign rfl) ?_
          refine SL.pure rfl rfl rfl (PureOp.assign rfl) ?_
          refine SL.nil_then ?_
          refine WC.ret ?_
          refine QX.ret_then ?_
          refine QX.ret_in ?_
          refine QX.ret_then ?_
          refine QX.ret_then ?_
          refine QX.ret_in ?_
          refine QX.ret_then ?_
          refine QX.ret2 rfl rfl rfl ?_
          intro w hw
          rw [feeGo_drop (by omega), if_neg (by omega), if_pos (by simpa using h3)] at hs
          rw [← hs]
        · try simp only [Bool.and_eq_true, Bool.or_eq_true, Bool.not_eq_true', Bool.not_eq_false', Bool.and_eq_false_iff, Bool.or_eq_false_iff, decide_eq_true_eq, decide_eq_false_iff_not, Int.not_lt, Int.not_le, ne_eq, Decidable.not_not] at h3
          refine WC.skip ?_
          refine QX.then_ ?_
          refine WC.region ?_
          refine SL.pure rfl rfl rfl (PureOp.move rfl) ?_
          refine SL.pure rfl rfl rfl (PureOp.fieldAddrT 12 Try.underlying92 rfl sz3 rfl rfl) ?_
          refine SL.pure rfl rfl rfl (PureOp.load (v := .int .i64 ((ruleE rl (nth fl (nth pl k).2.2.1.toNat).2.2.2.2.2.2.2.1).1.2.2.2.2.2.1)) Try.underlying3 rfl rfl (fun _ => (CellIs.cells 2 rfl rfl))) ?_
          refine SL.pure rfl rfl rfl (PureOp.max_ rfl rfl) ?_
          refine SL.pure rfl rfl rfl (PureOp.assign rfl) ?_
          refine SL.nil ?_
          refine QX.normal_in ?_
          refine QX.then_ ?_
          refine WC.region ?_
          refine SL.pure rfl rfl rfl (PureOp.move rfl) ?_
          refine SL.pure rfl rfl rfl (PureOp.addN (k := 1) rfl rfl (fun _ => by omega)) ?_
          refine SL.pure rfl rfl rfl (PureOp.assign rfl) ?_
          refine SL.nil ?_
          refine QX.round (σ := Nat × Int) (Ef := fun q_ => [(0, 0, .agg #[.slice fao fn fcap, .slice rao rn rcap, .slice u1.ao u1.l.length u1.cap, .slice u2.ao u2.l.length u2.cap]), (1, 0, .agg #[.slice pao pn pcap, .slice u3.ao u3.l.length u3.cap, .slice u4.ao u4.l.length u4.cap, .int .i64 u5, .int .i64 u6]), (2, 0, .pointer (some ⟨b1, 0, none⟩)), (3, 0, .pointer (some ⟨b2, 0, none⟩)), (7, 0, .int .i64 ((q_.1 : Nat) : Int)), (6, 0, .int .i64 q_.2)]) (Hf := fun q_ => [Item.cells b1 [.slice fao fn fcap, .slice rao rn rcap, .slice u1.ao u1.l.length u1.cap, .slice u2.ao u2.l.length u2.cap] 52, Item.cells b2 [.slice pao pn pcap, .slice u3.ao u3.l.length u3.cap, .slice u4.ao u4.l.length u4.cap, .int .i64 u5, .int .i64 u6] 56]) (I := fun q_ => q_.1 ≤ pn ∧ feeGo fl rl cfee q_.2 (pl.drop q_.1) = feeE fl rl cfee pl) (μ := fun q_ => pn - q_.1) (s := (k, m)) 2 ((k + 1, max m (cfee (ruleE rl (nth fl (nth pl k).2.2.1.toNat).2.2.2.2.2.2.2.1).1))) ⟨⟨(by first | omega | (dsimp only; omega)), by rw [feeGo_drop (by omega), if_neg (by omega), if_neg (by simpa using h3)] at hs; exact hs⟩, by first | omega | (dsimp only; omega)⟩ ⟨rfl, rfl, rfl, rfl, rfl, rfl, rfl, rfl, rfl, rfl, rfl, rfl, trivial⟩ rfl
      · skip
        refine SL.alloc rfl rfl zero92 (fun b4 hb4 => ?_)
        refine SL.norm [_, _, _] rfl ?_
        refine SD.back (fun _ h => HeapOk.take h 2) ?_
        refine SD.one 7 [true, true, true, true, true, true, true, true, false, false, false, true, false, false] (by kernel_rfl) rfl rfl ?_
        refine SL.calle rfl rfl rfl rfl rfl rfl callable47 (fun w hw => rrule_ok u1 u2 fl rl fao rao fn fcap rn rcap hfn hrn w (hf.below hw.below) (hr.below hw.below) hfb hrb _) ?_
        refine SL.norm [_, _, _] rfl ?_
        refine SD.back (fun _ h => HeapOk.take h 2) ?_
        refine SD.take 8 [true, true, true, true, true, true, true, true, true, false, false, true, false, false] rfl (by kernel_rfl) rfl (fun _ h => HeapOk.take h 2) rfl rfl rfl (PureOp.move rfl) ?_
        refine SD.take 9 [true, true, true, true, true, true, true, true, true, true, false, true, false, false] rfl (by kernel_rfl) rfl (fun _ h => HeapOk.take h 2) rfl rfl rfl (PureOp.extract rfl rfl) ?_
        refine SD.take 10 [true, true, true, true, true, true, true, true, true, true, true, true, false, false] rfl (by kernel_rfl) rfl (fun _ h => HeapOk.take h 2) rfl rfl rfl (PureOp.extract rfl rfl) ?_
        refine SD.one 12 [true, true, true, true, true, true, true, true, true, true, true, true, true, false] (by kernel_rfl) rfl rfl ?_
        refine SL.store 2 rfl rfl rfl rfl sz92 rfl rfl ?_
        refine SL.norm [_, _, _] rfl ?_
        refine SD.back (fun _ h => HeapOk.take h 2) ?_
        refine SD.take 13 [true, true, true, true, true, true, true, true, true, true, true, true, true, true] rfl (by kernel_rfl) rfl (fun _ h => HeapOk.take h 2) rfl rfl rfl (PureOp.assign rfl) ?_
        refine SD.done (by kernel_rfl) ?_
        refine QX.ofK ?_
        refine QX.then_ ?_
        refine WC.seq ?_
        refine WC.seq ?_
        refine WC.region ?_
        refine SL.pure rfl rfl rfl (PureOp.move rfl) ?_
        refine SL.pure rfl rfl rfl (PureOp.not rfl) ?_
        refine SL.pure rfl rfl rfl (PureOp.move rfl) ?_
        refine SL.newg 46 false rfl ?_
        refine SL.gpure (c := 2) rfl rfl rfl rfl rfl rfl rfl (PureOp.fieldAddrT 12 Try.underlying92 rfl sz3 rfl rfl) ?_
        refine SL.gpure (c := 2) rfl rfl rfl rfl rfl rfl rfl (PureOp.load (v := .int .i64 ((ruleE rl (nth fl (nth pl k).2.2.1.toNat).2.2.2.2.2.2.2.1).1.2.2.2.2.2.1)) Try.underlying3 rfl rfl (fun _ => (CellIs.cells 2 rfl rfl))) ?_
        refine SL.gpure (c := 2) rfl rfl rfl rfl rfl rfl rfl (PureOp.lss rfl rfl) ?_
        refine SL.pure rfl rfl rfl (PureOp.or_ rfl rfl rfl rfl) ?_
        refine SL.nil_then ?_
        refine WC.cond rfl (fun h4 => ?_) (fun h4 => ?_)
        · try simp only [Bool.and_eq_true, Bool.or_eq_true, Bool.not_eq_true', Bool.not_eq_false', Bool.and_eq_false_iff, Bool.or_eq_false_iff, decide_eq_true_eq, decide_eq_false_iff_not, Int.not_lt, Int.not_le, ne_eq, Decidable.not_not] at h4
          refine WC.seq ?_
          refine WC.region ?_
          refine SL.pure rfl rfl rfl (PureOp.assign rfl) ?_
          refine SL.pure rfl rfl rfl (PureOp.assign rfl) ?_
          refine SL.nil_then ?_
          refine WC.ret ?_
          refine QX.ret_then ?_
          refine QX.ret_in ?_
          refine QX.ret_then ?_
          refine QX.ret_then ?_
          refine QX.ret_in ?_
          refine QX.ret_then ?_
          refine QX.ret2 rfl rfl rfl ?_
          intro w hw
          rw [feeGo_drop (by omega), if_neg (by omega), if_pos (by simpa using h4)] at hs
          rw [← hs]
        · try simp only [Bool.and_eq_true, Bool.or_eq_true, Bool.not_eq_true', Bool.not_eq_false', Bool.and_eq_false_iff, Bool.or_eq_false_iff, decide_eq_true_eq, decide_eq_false_iff_not, Int.not_lt, Int.not_le, ne_eq, Decidable.not_not] at h4
          refine WC.skip ?_
          refine QX.then_ ?_
          refine WC.region ?_
          refine SL.pure rfl rfl rfl (PureOp.move rfl) ?_
          refine SL.pure rfl rfl rfl (PureOp.fieldAddrT 12 Try.underlying92 rfl sz3 rfl rfl) ?_
          refine SL.pure rfl rfl rfl (PureOp.load (v := .int .i64 ((ruleE rl (nth fl (nth pl k).2.2.1.toNat).2.2.2.2.2.2.2.1).1.2.2.2.2.2.1)) Try.underlying3 rfl rfl (fun _ => (CellIs.cells 2 rfl rfl))) ?_
          refine SL.pure rfl rfl rfl (PureOp.max_ rfl rfl) ?_
          refine SL.pure rfl rfl rfl (PureOp.assign rfl) ?_
          refine SL.nil ?_
          refine QX.normal_in ?_
          refine QX.then_ ?_
          refine WC.region ?_
          refine SL.pure rfl rfl rfl (PureOp.move rfl) ?_
          refine SL.pure rfl rfl rfl (PureOp.addN (k := 1) rfl rfl (fun _ => by omega)) ?_
          refine SL.pure rfl rfl rfl (PureOp.assign rfl) ?_
          refine SL.nil ?_
          refine QX.round (σ := Nat × Int) (Ef := fun q_ => [(0, 0, .agg #[.slice fao fn fcap, .slice rao rn rcap, .slice u1.ao u1.l.length u1.cap, .slice u2.ao u2.l.length u2.cap]), (1, 0, .agg #[.slice pao pn pcap, .slice u3.ao u3.l.length u3.cap, .slice u4.ao u4.l.length u4.cap, .int .i64 u5, .int .i64 u6]), (2, 0, .pointer (some ⟨b1, 0, none⟩)), (3, 0, .pointer (some ⟨b2, 0, none⟩)), (7, 0, .int .i64 ((q_.1 : Nat) : Int)), (6, 0, .int .i64 q_.2)]) (Hf := fun q_ => [Item.cells b1 [.slice fao fn fcap, .slice rao rn rcap, .slice u1.ao u1.l.length u1.cap, .slice u2.ao u2.l.length u2.cap] 52, Item.cells b2 [.slice pao pn pcap, .slice u3.ao u3.l.length u3.cap, .slice u4.ao u4.l.length u4.cap, .int .i64 u5, .int .i64 u6] 56]) (I := fun q_ => q_.1 ≤ pn ∧ feeGo fl rl cfee q_.2 (pl.drop q_.1) = feeE fl rl cfee pl) (μ := fun q_ => pn - q_.1) (s := (k, m)) 2 ((k + 1, max m (cfee (ruleE rl (nth fl (nth pl k).2.2.1.toNat).2.2.2.2.2.2.2.1).1))) ⟨⟨(by first | omega | (dsimp only; omega)), by rw [feeGo_drop (by omega), if_neg (by omega), if_neg (by simpa using h4)] at hs; exact hs⟩, by first | omega | (dsimp only; omega)⟩ ⟨rfl, rfl, rfl, rfl, rfl, rfl, rfl, rfl, rfl, rfl, rfl, rfl, trivial⟩ rfl
  · try simp only [Bool.and_eq_true, Bool.or_eq_true, Bool.not_eq_true', Bool.not_eq_false', Bool.and_eq_false_iff, Bool.or_eq_false_iff, decide_eq_true_eq, decide_eq_false_iff_not, Int.not_lt, Int.not_le, ne_eq, Decidable.not_not] at h1
    refine WC.exit ?_
    refine QX.exit_then ?_
    refine QX.exit_then ?_
    refine QX.exit_hit ?_
    refine QX.then_ ?_
    refine WC.seq ?_
    refine WC.region ?_
    refine SL.pure rfl rfl rfl (PureOp.move rfl) ?_
    refine SL.pure rfl rfl rfl (PureOp.assign rfl) ?_
    refine SL.pure rfl rfl rfl (PureOp.assign rfl) ?_
    refine SL.nil_then ?_
    refine WC.ret ?_
    refine QX.ret2 rfl rfl rfl ?_
    intro w hw
    rw [feeGo_end (by omega)] at hs
    rw [← hs]

end Go.Proofs.Ytipmdakhmpaemaa
