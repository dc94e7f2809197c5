import Derived.Test.YtblmafknmeicfaaKnow
import Derived.Test.YtblmafknmeicfaaFacts
import Derived.Test.YtblmafknmeicfaaTypes
import Derived.Test.YtblmafknmeicfaaCut
namespace Go.Proofs.Ytblmafknmeicfaa
open Go Go.RowKit Eng
set_option linter.unusedVariables false
set_option linter.unusedSimpArgs false

def fareX (fl : List Fa) (pl : List Pt) (i : Nat) : Fa := nth fl (nth pl i).2.2.1.toNat
def backB (a b : Fa) : Bool := a.1.toList == b.1.toList && (a.2.1.toList == b.2.2.1.toList && a.2.2.1.toList == b.2.1.toList)
def rdF (fl : List Fa) (pl : List Pt) (i : Nat) : Bool := (fareX fl pl i).2.2.2.2.2.1
def mtF (fl : List Fa) (pl : List Pt) (i k : Nat) : Bool := backB (fareX fl pl i) (fareX fl pl k)
def prF (fn : Nat) (pl : List Pt) (i : Nat) : Bool := decide (0 ≤ (nth pl i).2.2.1) && decide ((nth pl i).2.2.1 < fn)
theorem prF_iff {fn : Nat} {pl : List Pt} {i : Nat} : prF fn pl i = true ↔ 0 ≤ (nth pl i).2.2.1 ∧ (nth pl i).2.2.1 < fn := by rw [prF, Bool.and_eq_true, decide_eq_true_iff, decide_eq_true_iff]
theorem prF_not {fn : Nat} {pl : List Pt} {i : Nat} : prF fn pl i = false ↔ ¬ (0 ≤ (nth pl i).2.2.1 ∧ (nth pl i).2.2.1 < fn) := by rw [← prF_iff]; cases prF fn pl i <;> simp
theorem priced_at {fn : Nat} {pl : List Pt} (h : allK (prF fn pl) pl.length = true) {i : Nat} (hi : i < pl.length) : 0 ≤ (nth pl i).2.2.1 ∧ (nth pl i).2.2.1 < fn := prF_iff.1 ((allK_iff _).1 h i hi)
set_option maxHeartbeats 4000000 in
set_option maxRecDepth 100000 in
theorem priced_ok (u1 u2 : SliceV Unit) (fl : List Fa) (rao : Option Addr) (rn rcap : Nat) (fao : Option Addr) (fn fcap : Nat) (hfn : fn = fl.length) (w0 : World) (hf : SliceIn w0 9 fao fn fcap (rowsF enc52 fl)) (hfb : fn ≤ 1000) (pl : List Pt) (pao : Option Addr) (pn pcap : Nat) (hpn : pn = pl.length) (hp : SliceIn w0 4 pao pn pcap (rowsF enc42 pl)) (hpb : pn ≤ 1000) : FnC Try.prog 19 [.agg #[.slice fao fn fcap, .slice rao rn rcap, .slice u1.ao u1.l.length u1.cap, .slice u2.ao u2.l.length u2.cap], .slice pao pn pcap] w0 fun v w' => v = .bool (allK (prF fn pl) pl.length) := by
  refine fnc (N := 25) Try.func19 rfl rfl rfl ?_
  refine WC.seq ?_
  refine WC.region ?_
  refine SL.box rfl rfl rfl (fun b1 hb1 => ?_)
  refine SL.norm [_] rfl ?_
  refine SL.pure rfl rfl rfl (PureOp.assign rfl) ?_
  refine SL.nil_then ?_
  refine WC.seq ?_
  refine WC.seq ?_
  refine WC.region ?_
  refine SL.pure rfl rfl rfl (PureOp.move rfl) ?_
  refine SL.pure rfl rfl rfl (PureOp.len rfl Try.underlying28) ?_
  refine SL.pure rfl rfl rfl (PureOp.move rfl) ?_
  refine SL.nil_then ?_
  refine WC.block ?_
  refine WC.loop (σ := Nat) (fun q_ => [(0, 0, .agg #[.slice fao fn fcap, .slice rao rn rcap, .slice u1.ao u1.l.length u1.cap, .slice u2.ao u2.l.length u2.cap]), (1, 0, .slice pao pn pcap), (2, 0, .pointer (some ⟨b1, 0, none⟩)), (7, 0, .slice pao pn pcap), (8, 0, .int .i64 ((pn : Nat) : Int)), (9, 0, .int .i64 ((q_ : Nat) : Int))]) (fun q_ => [Item.cells b1 [.slice fao fn fcap, .slice rao rn rcap, .slice u1.ao u1.l.length u1.cap, .slice u2.ao u2.l.length u2.cap] 27]) (fun q_ => q_ ≤ pn ∧ allK (prF fn pl) q_ = true) (fun q_ => pn - q_) 1 (0) (⟨Nat.zero_le _, rfl⟩) ⟨rfl, rfl, rfl, rfl, rfl, rfl, rfl, rfl, rfl, rfl, rfl, rfl, trivial⟩ rfl ?_
  rintro k ⟨hk, hz⟩
  refine WC.seq ?_
  refine WC.region ?_
  refine SL.pure rfl rfl rfl (PureOp.lss rfl rfl) ?_
  refine SL.nil_then ?_
  refine WC.seq ?_
  refine WC.cond rfl (fun h1 => ?_) (fun h1 => ?_)
  · try simp only [Bool.and_eq_true, Bool.or_eq_true, Bool.not_eq_true', Bool.not_eq_false', Bool.and_eq_false_iff, Bool.or_eq_false_iff, decide_eq_true_eq, decide_eq_false_iff_not, Int.not_lt, Int.not_le, ne_eq, Decidable.not_not] at h1
    refine WC.skip ?_
    refine QX.then_ ?_
    refine WC.seq ?_
    refine WC.block ?_
    refine WC.seq ?_
    refine WC.region ?_
    refine SL.pure rfl rfl rfl (PureOp.indexAddrN Try.underlying28 sz42 rfl rfl (AoOk.in_ hp) (fun _ => by omega)) ?_
    refine SL.pure rfl rfl rfl (PureOp.loads (vs := [.int .i64 ((nth pl k).1), .int .i64 ((nth pl k).2.1), .int .i64 ((nth pl k).2.2.1), .int .i64 ((nth pl k).2.2.2)]) Try.underlying42 rfl rfl (fun _ => (RowIs.in_ hp k 0 4 (by omega) (by omega))) sz42) ?_
    refine SL.alloc rfl rfl zero42 (fun b2 hb2 => ?_)
    refine SL.norm [_, _] rfl ?_
    refine SL.store 1 rfl rfl rfl rfl sz42 rfl rfl ?_
    refine SL.norm [_, _] rfl ?_
    refine SL.nil_then ?_
    refine WC.seq ?_
    refine WC.region ?_
    refine SL.pure rfl rfl rfl (PureOp.fieldAddrT 2 Try.underlying42 rfl sz3 rfl rfl) ?_
    refine SL.pure rfl rfl rfl (PureOp.load (v := .int .i64 ((nth pl k).2.2.1)) Try.underlying3 rfl rfl (fun _ => (CellIs.cells 1 rfl rfl))) ?_
    refine SL.pure rfl rfl rfl (PureOp.lss rfl rfl) ?_
    refine SL.pure rfl rfl rfl (PureOp.move rfl) ?_
    refine SL.newg 16 false rfl ?_
    refine SL.gpure (c := 1) rfl rfl rfl rfl rfl rfl rfl (PureOp.fieldAddrT 2 Try.underlying42 rfl sz3 rfl rfl) ?_
    refine SL.gpure (c := 1) rfl rfl rfl rfl rfl rfl rfl (PureOp.load (v := .int .i64 ((nth pl k).2.2.1)) Try.underlying3 rfl rfl (fun _ => (CellIs.cells 1 rfl rfl))) ?_
    refine SL.gpure (c := 1) rfl rfl rfl rfl rfl rfl rfl (PureOp.fieldAddrT 0 Try.underlying27 rfl sz22 rfl rfl) ?_
    refine SL.gpure (c := 1) rfl rfl rfl rfl rfl rfl rfl (PureOp.load (v := .slice fao fn fcap) Try.underlying22 rfl rfl (fun _ => (CellIs.cells 0 rfl rfl))) ?_
    refine SL.gpure (c := 1) rfl rfl rfl rfl rfl rfl rfl (PureOp.len rfl Try.underlying22) ?_
    refine SL.gpure (c := 1) rfl rfl rfl rfl rfl rfl rfl (PureOp.geq rfl rfl) ?_
    refine SL.pure rfl rfl rfl (PureOp.or_ rfl rfl rfl rfl) ?_
    refine SL.nil_then ?_
    refine WC.cond rfl (fun h2 => ?_) (fun h2 => ?_)
    · try simp only [Bool.and_eq_true, Bool.or_eq_true, Bool.not_eq_true', Bool.not_eq_false', Bool.and_eq_false_iff, Bool.or_eq_false_iff, decide_eq_true_eq, decide_eq_false_iff_not, Int.not_lt, Int.not_le, ne_eq, Decidable.not_not] at h2
      refine WC.seq ?_
      refine WC.region ?_
      refine SL.pure rfl rfl rfl (PureOp.assign rfl) ?_
      refine SL.nil_then ?_
      refine WC.ret ?_
      refine QX.ret_in ?_
      refine QX.ret_then ?_
      refine QX.ret_then ?_
      refine QX.ret_in ?_
      refine QX.ret_then ?_
      refine QX.ret1 rfl rfl ?_
      intro w hw
      rw [allK_not (k := k) (by omega) (prF_not.2 (by omega))]
    · try simp only [Bool.and_eq_true, Bool.or_eq_true, Bool.not_eq_true', Bool.not_eq_false', Bool.and_eq_false_iff, Bool.or_eq_false_iff, decide_eq_true_eq, decide_eq_false_iff_not, Int.not_lt, Int.not_le, ne_eq, Decidable.not_not] at h2
      refine WC.skip ?_
      refine QX.normal_in ?_
      refine QX.then_ ?_
      refine WC.region ?_
      refine SL.pure rfl rfl rfl (PureOp.addN (k := 1) rfl rfl (fun _ => by omega)) ?_
      refine SL.pure rfl rfl rfl (PureOp.move rfl) ?_
      refine SL.nil ?_
      refine QX.round 1 (k + 1) ⟨⟨(by first | omega | (dsimp only; omega)), allK_next hz (prF_iff.2 (by omega))⟩, by first | omega | (dsimp only; omega)⟩ ⟨rfl, rfl, rfl, rfl, rfl, rfl, rfl, rfl, rfl, rfl, rfl, rfl, trivial⟩ rfl
  · try simp only [Bool.and_eq_true, Bool.or_eq_true, Bool.not_eq_true', Bool.not_eq_false', Bool.and_eq_false_iff, Bool.or_eq_false_iff, decide_eq_true_eq, decide_eq_false_iff_not, Int.not_lt, Int.not_le, ne_eq, Decidable.not_not] at h1
    refine WC.exit ?_
    refine QX.exit_then ?_
    refine QX.exit_then ?_
    refine QX.exit_hit ?_
    refine QX.then_ ?_
    refine WC.seq ?_
    refine WC.region ?_
    refine SL.pure rfl rfl rfl (PureOp.assign rfl) ?_
    refine SL.nil_then ?_
    refine WC.ret ?_
    refine QX.ret1 rfl rfl ?_
    intro w hw
    rw [← hpn, show pn = k from by omega, hz]

set_option maxHeartbeats 4000000 in
set_option maxRecDepth 100000 in
theorem known_ok (u1 u2 : SliceV Unit) (fl : List Fa) (rao : Option Addr) (rn rcap : Nat) (fao : Option Addr) (fn fcap : Nat) (hfn : fn = fl.length) (w0 : World) (hf : SliceIn w0 9 fao fn fcap (rowsF enc52 fl)) (hfb : fn ≤ 1000) (pl : List Pt) (pao : Option Addr) (pn pcap : Nat) (hpn : pn = pl.length) (hp : SliceIn w0 4 pao pn pcap (rowsF enc42 pl)) (hpb : pn ≤ 1000) : FnC Try.prog 21 [.agg #[.slice fao fn fcap, .slice rao rn rcap, .slice u1.ao u1.l.length u1.cap, .slice u2.ao u2.l.length u2.cap], .slice pao pn pcap] w0 fun v w' => v = .bool (allK (prF fn pl) pl.length) := by
  refine fnc (N := 29) Try.func21 rfl rfl rfl ?_
  refine WC.seq ?_
  refine WC.region ?_
  refine SL.box rfl rfl rfl (fun b1 hb1 => ?_)
  refine SL.norm [_] rfl ?_
  refine SL.pure rfl rfl rfl (PureOp.assign rfl) ?_
  refine SL.nil_then ?_
  refine WC.seq ?_
  refine WC.seq ?_
  refine WC.region ?_
  refine SL.pure rfl rfl rfl (PureOp.assign rfl) ?_
  refine SL.nil_then ?_
  refine WC.block ?_
  refine WC.loop (σ := Nat) (fun q_ => [(0, 0, .agg #[.slice fao fn fcap, .slice rao rn rcap, .slice u1.ao u1.l.length u1.cap, .slice u2.ao u2.l.length u2.cap]), (1, 0, .slice pao pn pcap), (2, 0, .pointer (some ⟨b1, 0, none⟩)), (5, 0, .int .i64 ((q_ : Nat) : Int))]) (fun q_ => [Item.cells b1 [.slice fao fn fcap, .slice rao rn rcap, .slice u1.ao u1.l.length u1.cap, .slice u2.ao u2.l.length u2.cap] 27]) (fun q_ => q_ ≤ pn ∧ allK (prF fn pl) q_ = true) (fun q_ => pn - q_) 1 (0) (⟨Nat.zero_le _, rfl⟩) ⟨rfl, rfl, rfl, rfl, rfl, rfl, rfl, rfl, trivial⟩ rfl ?_
  rintro k ⟨hk, hz⟩
  refine WC.seq ?_
  refine WC.seq ?_
  refine WC.region ?_
  refine SL.pure rfl rfl rfl (PureOp.move rfl) ?_
  refine SL.pure rfl rfl rfl (PureOp.move rfl) ?_
  refine SL.pure rfl rfl rfl (PureOp.len rfl Try.underlying28) ?_
  refine SL.pure rfl rfl rfl (PureOp.lss rfl rfl) ?_
  refine SL.nil_then ?_
  refine WC.cond rfl (fun h1 => ?_) (fun h1 => ?_)
  · try simp only [Bool.and_eq_true, Bool.or_eq_true, Bool.not_eq_true', Bool.not_eq_false', Bool.and_eq_false_iff, Bool.or_eq_false_iff, decide_eq_true_eq, decide_eq_false_iff_not, Int.not_lt, Int.not_le, ne_eq, Decidable.not_not] at h1
    refine WC.skip ?_
    refine QX.then_ ?_
    refine WC.seq ?_
    refine WC.block ?_
    refine WC.seq ?_
    refine WC.quiet rfl (by kernel_rfl) ?_
    refine SQ.pure rfl rfl rfl (PureOp.move rfl) ?_
    refine SQ.pure rfl rfl rfl (PureOp.move rfl) ?_
    refine SQ.pure rfl rfl rfl (PureOp.indexAddrN Try.underlying28 sz42 rfl rfl (AoOk.in_ hp) (fun _ => by omega)) ?_
    refine SQ.pure rfl rfl rfl (PureOp.fieldAddr 2 Try.underlying42 rfl rfl sz3 rfl) ?_
    refine SQ.pure rfl rfl rfl (PureOp.load (v := .int .i64 ((nth pl k).2.2.1)) Try.underlying3 rfl rfl (fun _ => (CellIs.in_ hp k 2 (by omega) (by omega)))) ?_
    refine SQ.pure rfl rfl rfl (PureOp.lss rfl rfl) ?_
    refine SQ.pure rfl rfl rfl (PureOp.move rfl) ?_
    refine SQ.newg 18 false rfl ?_
    refine SQ.gpure (c := 1) rfl rfl rfl rfl rfl rfl rfl (PureOp.move rfl) ?_
    refine SQ.gpure (c := 1) rfl rfl rfl rfl rfl rfl rfl (PureOp.move rfl) ?_
    refine SQ.gpure (c := 1) rfl rfl rfl rfl rfl rfl rfl (PureOp.indexAddrN Try.underlying28 sz42 rfl rfl (AoOk.in_ hp) (by intro hg; simp [gval] at hg; omega)) ?_
    refine SQ.gpure (c := 1) rfl rfl rfl rfl rfl rfl rfl (PureOp.fieldAddr 2 Try.underlying42 rfl rfl sz3 rfl) ?_
    refine SQ.gpure (c := 1) rfl rfl rfl rfl rfl rfl rfl (PureOp.load (v := .int .i64 ((nth pl k).2.2.1)) Try.underlying3 rfl rfl (by intro hg; simp [gval] at hg; exact (CellIs.in_ hp k 2 (by omega) (by omega)))) ?_
    refine SQ.gpure (c := 1) rfl rfl rfl rfl rfl rfl rfl (PureOp.fieldAddrT 0 Try.underlying27 rfl sz22 rfl rfl) ?_
    refine SQ.gpure (c := 1) rfl rfl rfl rfl rfl rfl rfl (PureOp.load (v := .slice fao fn fcap) Try.underlying22 rfl rfl (fun _ => (CellIs.cells 0 rfl rfl))) ?_
    refine SQ.gpure (c := 1) rfl rfl rfl rfl rfl rfl rfl (PureOp.len rfl Try.underlying22) ?_
    refine SQ.gpure (c := 1) rfl rfl rfl rfl rfl rfl rfl (PureOp.geq rfl rfl) ?_
    refine SQ.pure rfl rfl rfl (PureOp.or_ rfl rfl rfl rfl) ?_
    refine SQ.nil_then ?_
    refine WC.cond rfl (fun h2 => ?_) (fun h2 => ?_)
    · try simp only [Bool.and_eq_true, Bool.or_eq_true, Bool.not_eq_true', Bool.not_eq_false', Bool.and_eq_false_iff, Bool.or_eq_false_iff, decide_eq_true_eq, decide_eq_false_iff_not, Int.not_lt, Int.not_le, ne_eq, Decidable.not_not] at h2
      refine WC.seq ?_
      refine WC.region ?_
      refine SL.pure rfl rfl rfl (PureOp.assign rfl) ?_
      refine SL.nil_then ?_
      refine WC.ret ?_
      refine QX.ret_in ?_
      refine QX.ret_then ?_
      refine QX.ret_then ?_
      refine QX.ret_in ?_
      refine QX.ret_then ?_
      refine QX.ret1 rfl rfl ?_
      intro w hw
      rw [allK_not (k := k) (by omega) (prF_not.2 (by omega))]
    · try simp only [Bool.and_eq_true, Bool.or_eq_true, Bool.not_eq_true', Bool.not_eq_false', Bool.and_eq_false_iff, Bool.or_eq_false_iff, decide_eq_true_eq, decide_eq_false_iff_not, Int.not_lt, Int.not_le, ne_eq, Decidable.not_not] at h2
      refine WC.skip ?_
      refine QX.normal_in ?_
      refine QX.then_ ?_
      refine WC.region ?_
      refine SL.pure rfl rfl rfl (PureOp.move rfl) ?_
      refine SL.pure rfl rfl rfl (PureOp.addN (k := 1) rfl rfl (fun _ => by omega)) ?_
      refine SL.pure rfl rfl rfl (PureOp.assign rfl) ?_
      refine SL.nil ?_
      refine QX.round 1 (k + 1) ⟨⟨(by first | omega | (dsimp only; omega)), allK_next hz (prF_iff.2 (by omega))⟩, by first | omega | (dsimp only; omega)⟩ ⟨rfl, rfl, rfl, rfl, rfl, rfl, rfl, rfl, trivial⟩ rfl
  · try simp only [Bool.and_eq_true, Bool.or_eq_true, Bool.not_eq_true', Bool.not_eq_false', Bool.and_eq_false_iff, Bool.or_eq_false_iff, decide_eq_true_eq, decide_eq_false_iff_not, Int.not_lt, Int.not_le, ne_eq, Decidable.not_not] at h1
    refine WC.exit ?_
    refine QX.exit_then ?_
    refine QX.exit_then ?_
    refine QX.exit_hit ?_
    refine QX.then_ ?_
    refine WC.seq ?_
    refine WC.region ?_
    refine SL.pure rfl rfl rfl (PureOp.assign rfl) ?_
    refine SL.nil_then ?_
    refine WC.ret ?_
    refine QX.ret1 rfl rfl ?_
    intro w hw
    rw [← hpn, show pn = k from by omega, hz]

set_option maxHeartbeats 4000000 in
set_option maxRecDepth 100000 in
theorem back_ok (a b : Fa) (w0 : World) : FnC Try.prog 20 [.agg #[.string a.1, .string a.2.1, .string a.2.2.1, .string a.2.2.2.1, .string a.2.2.2.2.1, .bool a.2.2.2.2.2.1, .int .i64 a.2.2.2.2.2.2.1, .int .i64 a.2.2.2.2.2.2.2.1, .int .i64 a.2.2.2.2.2.2.2.2], .agg #[.string b.1, .string b.2.1, .string b.2.2.1, .string b.2.2.2.1, .string b.2.2.2.2.1, .bool b.2.2.2.2.2.1, .int .i64 b.2.2.2.2.2.2.1, .int .i64 b.2.2.2.2.2.2.2.1, .int .i64 b.2.2.2.2.2.2.2.2]] w0 fun v w' => v = .bool (b.2.2.2.2.2.1 && backB a b) := by
  refine fnc (N := 28) Try.func20 rfl rfl rfl ?_
  refine WC.seq ?_
  refine WC.region ?_
  refine SL.box rfl rfl rfl (fun b1 hb1 => ?_)
  refine SL.norm [_] rfl ?_
  refine SL.box rfl rfl rfl (fun b2 hb2 => ?_)
  refine SL.norm [_, _] rfl ?_
  refine SL.pure rfl rfl rfl (PureOp.assign rfl) ?_
  refine SL.nil_then ?_
  refine WC.seq ?_
  refine WC.region ?_
  refine SL.pure rfl rfl rfl (PureOp.fieldAddrT 5 Try.underlying52 rfl sz4 rfl rfl) ?_
  refine SL.pure rfl rfl rfl (PureOp.load (v := .bool b.2.2.2.2.2.1) Try.underlying4 rfl rfl (fun _ => (CellIs.cells 1 rfl rfl))) ?_
  refine SL.pure rfl rfl rfl (PureOp.move rfl) ?_
  refine SL.newg 7 true rfl ?_
  refine SL.gpure (c := 1) rfl rfl rfl rfl rfl rfl rfl (PureOp.fieldAddrT 0 Try.underlying52 rfl sz9 rfl rfl) ?_
  refine SL.gpure (c := 1) rfl rfl rfl rfl rfl rfl rfl (PureOp.load (v := .string a.1) Try.underlying9 rfl rfl (fun _ => (CellIs.cells 0 rfl rfl))) ?_
  refine SL.gpure (c := 1) rfl rfl rfl rfl rfl rfl rfl (PureOp.fieldAddrT 0 Try.underlying52 rfl sz9 rfl rfl) ?_
  refine SL.gpure (c := 1) rfl rfl rfl rfl rfl rfl rfl (PureOp.load (v := .string b.1) Try.underlying9 rfl rfl (fun _ => (CellIs.cells 1 rfl rfl))) ?_
  refine SL.gpure (c := 1) rfl rfl rfl rfl rfl rfl rfl (PureOp.eqls rfl rfl) ?_
  refine SL.pure rfl rfl rfl (PureOp.and_ rfl rfl rfl rfl) ?_
  refine SL.pure rfl rfl rfl (PureOp.move rfl) ?_
  refine SL.newg 14 true rfl ?_
  refine SL.gpure (c := 2) rfl rfl rfl rfl rfl rfl rfl (PureOp.fieldAddrT 1 Try.underlying52 rfl sz9 rfl rfl) ?_
  refine SL.gpure (c := 2) rfl rfl rfl rfl rfl rfl rfl (PureOp.load (v := .string a.2.1) Try.underlying9 rfl rfl (fun _ => (CellIs.cells 0 rfl rfl))) ?_
  refine SL.gpure (c := 2) rfl rfl rfl rfl rfl rfl rfl (PureOp.fieldAddrT 2 Try.underlying52 rfl sz9 rfl rfl) ?_
  refine SL.gpure (c := 2) rfl rfl rfl rfl rfl rfl rfl (PureOp.load (v := .string b.2.2.1) Try.underlying9 rfl rfl (fun _ => (CellIs.cells 1 rfl rfl))) ?_
  refine SL.gpure (c := 2) rfl rfl rfl rfl rfl rfl rfl (PureOp.eqls rfl rfl) ?_
  refine SL.pure rfl rfl rfl (PureOp.and_ rfl rfl rfl rfl) ?_
  refine SL.pure rfl rfl rfl (PureOp.move rfl) ?_
  refine SL.newg 21 true rfl ?_
  refine SL.gpure (c := 3) rfl rfl rfl rfl rfl rfl rfl (PureOp.fieldAddrT 2 Try.underlying52 rfl sz9 rfl rfl) ?_
  refine SL.gpure (c := 3) rfl rfl rfl rfl rfl rfl rfl (PureOp.load (v := .string a.2.2.1) Try.underlying9 rfl rfl (fun _ => (CellIs.cells 0 rfl rfl))) ?_
  refine SL.gpure (c := 3) rfl rfl rfl rfl rfl rfl rfl (PureOp.fieldAddrT 1 Try.underlying52 rfl sz9 rfl rfl) ?_
  refine SL.gpure (c := 3) rfl rfl rfl rfl rfl rfl rfl (PureOp.load (v := .string b.2.1) Try.underlying9 rfl rfl (fun _ => (CellIs.cells 1 rfl rfl))) ?_
  refine SL.gpure (c := 3) rfl rfl rfl rfl rfl rfl rfl (PureOp.eqls rfl rfl) ?_
  refine SL.pure rfl rfl rfl (PureOp.and_ rfl rfl rfl rfl) ?_
  refine SL.pure rfl rfl rfl (PureOp.assign rfl) ?_
  refine SL.nil_then ?_
  refine WC.ret ?_
  refine QX.ret1 rfl rfl ?_
  intro w hw
  unfold backB
  simp only [Bool.and_assoc]

set_option maxHeartbeats 4000000 in
set_option maxRecDepth 100000 in
theorem returns_ok (a b : Fa) (w0 : World) : FnC Try.prog 35 [.agg #[.string a.1, .string a.2.1, .string a.2.2.1, .string a.2.2.2.1, .string a.2.2.2.2.1, .bool a.2.2.2.2.2.1, .int .i64 a.2.2.2.2.2.2.1, .int .i64 a.2.2.2.2.2.2.2.1, .int .i64 a.2.2.2.2.2.2.2.2], .agg #[.string b.1, .string b.2.1, .string b.2.2.1, .string b.2.2.2.1, .string b.2.2.2.2.1, .bool b.2.2.2.2.2.1, .int .i64 b.2.2.2.2.2.2.1, .int .i64 b.2.2.2.2.2.2.2.1, .int .i64 b.2.2.2.2.2.2.2.2]] w0 fun v w' => v = .bool (a.2.2.2.2.2.1 && (b.2.2.2.2.2.1 && backB a b)) := by
  refine fnc (N := 32) Try.func35 rfl rfl rfl ?_
  refine WC.seq ?_
  refine WC.region ?_
  refine SL.box rfl rfl rfl (fun b1 hb1 => ?_)
  refine SL.norm [_] rfl ?_
  refine SL.box rfl rfl rfl (fun b2 hb2 => ?_)
  refine SL.norm [_, _] rfl ?_
  refine SL.pure rfl rfl rfl (PureOp.assign rfl) ?_
  refine SL.nil_then ?_
  refine WC.seq ?_
  refine WC.region ?_
  refine SL.pure rfl rfl rfl (PureOp.fieldAddrT 5 Try.underlying52 rfl sz4 rfl rfl) ?_
  refine SL.pure rfl rfl rfl (PureOp.load (v := .bool a.2.2.2.2.2.1) Try.underlying4 rfl rfl (fun _ => (CellIs.cells 0 rfl rfl))) ?_
  refine SL.pure rfl rfl rfl (PureOp.move rfl) ?_
  refine SL.newg 7 true rfl ?_
  refine SL.gpure (c := 1) rfl rfl rfl rfl rfl rfl rfl (PureOp.fieldAddrT 5 Try.underlying52 rfl sz4 rfl rfl) ?_
  refine SL.gpure (c := 1) rfl rfl rfl rfl rfl rfl rfl (PureOp.load (v := .bool b.2.2.2.2.2.1) Try.underlying4 rfl rfl (fun _ => (CellIs.cells 1 rfl rfl))) ?_
  refine SL.pure rfl rfl rfl (PureOp.and_ rfl rfl rfl rfl) ?_
  refine SL.pure rfl rfl rfl (PureOp.move rfl) ?_
  refine SL.newg 11 true rfl ?_
  refine SL.gpure (c := 2) rfl rfl rfl rfl rfl rfl rfl (PureOp.fieldAddrT 0 Try.underlying52 rfl sz9 rfl rfl) ?_
  refine SL.gpure (c := 2) rfl rfl rfl rfl rfl rfl rfl (PureOp.load (v := .string a.1) Try.underlying9 rfl rfl (fun _ => (CellIs.cells 0 rfl rfl))) ?_
  refine SL.gpure (c := 2) rfl rfl rfl rfl rfl rfl rfl (PureOp.fieldAddrT 0 Try.underlying52 rfl sz9 rfl rfl) ?_
  refine SL.gpure (c := 2) rfl rfl rfl rfl rfl rfl rfl (PureOp.load (v := .string b.1) Try.underlying9 rfl rfl (fun _ => (CellIs.cells 1 rfl rfl))) ?_
  refine SL.gpure (c := 2) rfl rfl rfl rfl rfl rfl rfl (PureOp.eqls rfl rfl) ?_
  refine SL.pure rfl rfl rfl (PureOp.and_ rfl rfl rfl rfl) ?_
  refine SL.pure rfl rfl rfl (PureOp.move rfl) ?_
  refine SL.newg 18 true rfl ?_
  refine SL.gpure (c := 3) rfl rfl rfl rfl rfl rfl rfl (PureOp.fieldAddrT 1 Try.underlying52 rfl sz9 rfl rfl) ?_
  refine SL.gpure (c := 3) rfl rfl rfl rfl rfl rfl rfl (PureOp.load (v := .string a.2.1) Try.underlying9 rfl rfl (fun _ => (CellIs.cells 0 rfl rfl))) ?_
  refine SL.gpure (c := 3) rfl rfl rfl rfl rfl rfl rfl (PureOp.fieldAddrT 2 Try.underlying52 rfl sz9 rfl rfl) ?_
  refine SL.gpure (c := 3) rfl rfl rfl rfl rfl rfl rfl (PureOp.load (v := .string b.2.2.1) Try.underlying9 rfl rfl (fun _ => (CellIs.cells 1 rfl rfl))) ?_
  refine SL.gpure (c := 3) rfl rfl rfl rfl rfl rfl rfl (PureOp.eqls rfl rfl) ?_
  refine SL.pure rfl rfl rfl (PureOp.and_ rfl rfl rfl rfl) ?_
  refine SL.pure rfl rfl rfl (PureOp.move rfl) ?_
  refine SL.newg 25 true rfl ?_
  refine SL.gpure (c := 4) rfl rfl rfl rfl rfl rfl rfl (PureOp.fieldAddrT 2 Try.underlying52 rfl sz9 rfl rfl) ?_
  refine SL.gpure (c := 4) rfl rfl rfl rfl rfl rfl rfl (PureOp.load (v := .string a.2.2.1) Try.underlying9 rfl rfl (fun _ => (CellIs.cells 0 rfl rfl))) ?_
  refine SL.gpure (c := 4) rfl rfl rfl rfl rfl rfl rfl (PureOp.fieldAddrT 1 Try.underlying52 rfl sz9 rfl rfl) ?_
  refine SL.gpure (c := 4) rfl rfl rfl rfl rfl rfl rfl (PureOp.load (v := .string b.2.1) Try.underlying9 rfl rfl (fun _ => (CellIs.cells 1 rfl rfl))) ?_
  refine SL.gpure (c := 4) rfl rfl rfl rfl rfl rfl rfl (PureOp.eqls rfl rfl) ?_
  refine SL.pure rfl rfl rfl (PureOp.and_ rfl rfl rfl rfl) ?_
  refine SL.pure rfl rfl rfl (PureOp.assign rfl) ?_
  refine SL.nil_then ?_
  refine WC.ret ?_
  refine QX.ret1 rfl rfl ?_
  intro w hw
  unfold backB
  simp only [Bool.and_assoc]

end Go.Proofs.Ytblmafknmeicfaa
