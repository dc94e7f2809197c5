import Derived.Test.YtblmafknmeicfaaMtF
import Derived.Test.YtblmafknmeicfaaMtG
namespace Go.Proofs.Ytblmafknmeicfaa
open Go Go.RowKit Eng
set_option linter.unusedVariables false
set_option linter.unusedSimpArgs false

set_option maxHeartbeats 4000000 in
set_option maxRecDepth 100000 in
theorem few_any (u3 : SliceV Unit) (al : List Ai) (aao : Option Addr) (an acap : Nat) (han : an = al.length) (dl : List (ByteArray × ByteArray × Int)) (hdl : dl.length = u3.l.length) (u1 u2 : SliceV Unit) (fl : List Fa) (rl : List Ru) (rao : Option Addr) (rn rcap : Nat) (fao : Option Addr) (fn fcap : Nat) (hfn : fn = fl.length) (hrn : rn = rl.length) (tl : List (Int × SliceV Lk × Int)) (htl : tl.length = u1.l.length) (wl : List Wa) (wao : Option Addr) (wn wcap : Nat) (hwn : wn = wl.length) (w0 : World) (sA : SliceIn w0 5 aao an acap (rowsF enc88 al)) (sD : SliceIn w0 3 u3.ao u3.l.length u3.cap (rowsF enc117 dl)) (hf : SliceIn w0 9 fao fn fcap (rowsF enc52 fl)) (hr : SliceIn w0 15 rao rn rcap (rowsF enc76 rl)) (sR : SliceIn w0 3 u1.ao u1.l.length u1.cap (rowsF enc99 tl)) (sW : SliceIn w0 8 wao wn wcap (rowsF enc62 wl)) (hAi : ∀ j, j < an → AiG w0 (nth al j)) (hRu : ∀ i, i < rn → RuG w0 (nth rl i)) (hRt : ∀ i, i < u1.l.length → RtG w0 (nth tl i)) (hFa : ∀ i, i < fn → FaG (nth fl i)) : FnC Try.prog 11 [.agg #[.slice aao an acap, .slice u3.ao u3.l.length u3.cap], .agg #[.slice fao fn fcap, .slice rao rn rcap, .slice u1.ao u1.l.length u1.cap, .slice u2.ao u2.l.length u2.cap], .slice wao wn wcap] w0 fun v w' => ∃ b, v = .bool b ∧ (b = true → ((an ≤ 20 ∧ fn ≤ 60 ∧ rn ≤ 20 ∧ wn ≤ 20) ∧ (∀ i, i < wn → (-1099511627776 ≤ (nth wl i).1.2.2.2.2.2.1 ∧ (nth wl i).1.2.2.2.2.2.1 ≤ 1099511627776)) ∧ ∀ j, j < an → ZA al j)) := by
  have hwm : (wn : Int) ≤ 9223372036854775807 := by
    have q1 := sW.le; have q2 := sW.max; simp only [maxLen] at q2; omega
  refine fnc (N := 74) Try.func11 rfl rfl rfl ?_
  refine WC.seq ?_
  refine WC.region ?_
  refine SL.box rfl rfl rfl (fun b1 hb1 => ?_)
  refine SL.norm [_] rfl ?_
  refine SL.box rfl rfl rfl (fun b2 hb2 => ?_)
  refine SL.norm [_, _] rfl ?_
  refine SL.pure rfl rfl rfl (PureOp.assign rfl) ?_
  refine SL.nil_then ?_
  refine WC.seq ?_
  refine WC.seq ?_
  refine WC.region ?_
  refine SL.pure rfl rfl rfl (PureOp.fieldAddrT 0 Try.underlying39 rfl sz36 rfl rfl) ?_
  refine SL.pure rfl rfl rfl (PureOp.load (v := .slice aao an acap) Try.underlying36 rfl rfl (fun _ => (CellIs.cells 0 rfl rfl))) ?_
  refine SL.pure rfl rfl rfl (PureOp.len rfl Try.underlying36) ?_
  refine SL.pure rfl rfl rfl (PureOp.gtr rfl rfl) ?_
  refine SL.pure rfl rfl rfl (PureOp.move rfl) ?_
  refine SL.newg 12 false rfl ?_
  refine SL.gpure (c := 1) rfl rfl rfl rfl rfl rfl rfl (PureOp.fieldAddrT 1 Try.underlying39 rfl sz37 rfl rfl) ?_
  refine SL.gpure (c := 1) rfl rfl rfl rfl rfl rfl rfl (PureOp.load (v := .slice u3.ao u3.l.length u3.cap) Try.underlying37 rfl rfl (fun _ => (CellIs.cells 0 rfl rfl))) ?_
  refine SL.gpure (c := 1) rfl rfl rfl rfl rfl rfl rfl (PureOp.len rfl Try.underlying37) ?_
  refine SL.gpure (c := 1) rfl rfl rfl rfl rfl rfl rfl (PureOp.gtr rfl rfl) ?_
  refine SL.pure rfl rfl rfl (PureOp.or_ rfl rfl rfl rfl) ?_
  refine SL.pure rfl rfl rfl (PureOp.move rfl) ?_
  refine SL.newg 18 false rfl ?_
  refine SL.gpure (c := 2) rfl rfl rfl rfl rfl rfl rfl (PureOp.fieldAddrT 0 Try.underlying27 rfl sz22 rfl rfl) ?_
  refine SL.gpure (c := 2) rfl rfl rfl rfl rfl rfl rfl (PureOp.load (v := .slice fao fn fcap) Try.underlying22 rfl rfl (fun _ => (CellIs.cells 1 rfl rfl))) ?_
  refine SL.gpure (c := 2) rfl rfl rfl rfl rfl rfl rfl (PureOp.len rfl Try.underlying22) ?_
  refine SL.gpure (c := 2) rfl rfl rfl rfl rfl rfl rfl (PureOp.gtr rfl rfl) ?_
  refine SL.pure rfl rfl rfl (PureOp.or_ rfl rfl rfl rfl) ?_
  refine SL.pure rfl rfl rfl (PureOp.move rfl) ?_
  refine SL.newg 24 false rfl ?_
  refine SL.gpure (c := 3) rfl rfl rfl rfl rfl rfl rfl (PureOp.fieldAddrT 1 Try.underlying27 rfl sz23 rfl rfl) ?_
  refine SL.gpure (c := 3) rfl rfl rfl rfl rfl rfl rfl (PureOp.load (v := .slice rao rn rcap) Try.underlying23 rfl rfl (fun _ => (CellIs.cells 1 rfl rfl))) ?_
  refine SL.gpure (c := 3) rfl rfl rfl rfl rfl rfl rfl (PureOp.len rfl Try.underlying23) ?_
  refine SL.gpure (c := 3) rfl rfl rfl rfl rfl rfl rfl (PureOp.gtr rfl rfl) ?_
  refine SL.pure rfl rfl rfl (PureOp.or_ rfl rfl rfl rfl) ?_
  refine SL.pure rfl rfl rfl (PureOp.move rfl) ?_
  refine SL.newg 30 false rfl ?_
  refine SL.gpure (c := 4) rfl rfl rfl rfl rfl rfl rfl (PureOp.fieldAddrT 2 Try.underlying27 rfl sz24 rfl rfl) ?_
  refine SL.gpure (c := 4) rfl rfl rfl rfl rfl rfl rfl (PureOp.load (v := .slice u1.ao u1.l.length u1.cap) Try.underlying24 rfl rfl (fun _ => (CellIs.cells 1 rfl rfl))) ?_
  refine SL.gpure (c := 4) rfl rfl rfl rfl rfl rfl rfl (PureOp.len rfl Try.underlying24) ?_
  refine SL.gpure (c := 4) rfl rfl rfl rfl rfl rfl rfl (PureOp.gtr rfl rfl) ?_
  refine SL.pure rfl rfl rfl (PureOp.or_ rfl rfl rfl rfl) ?_
  refine SL.pure rfl rfl rfl (PureOp.move rfl) ?_
  refine SL.newg 36 false rfl ?_
  refine SL.gpure (c := 5) rfl rfl rfl rfl rfl rfl rfl (PureOp.move rfl) ?_
  refine SL.gpure (c := 5) rfl rfl rfl rfl rfl rfl rfl (PureOp.len rfl Try.underlying45) ?_
  refine SL.gpure (c := 5) rfl rfl rfl rfl rfl rfl rfl (PureOp.gtr rfl rfl) ?_
  refine SL.pure rfl rfl rfl (PureOp.or_ rfl rfl rfl rfl) ?_
  refine SL.nil_then ?_
  refine WC.cond rfl (fun h1 => ?_) (fun h1 => ?_)
  · try simp only [Bool.and_eq_true, Bool.or_eq_true, Bool.not_eq_true', Bool.not_eq_false', Bool.and_eq_false_iff, Bool.or_eq_false_iff, decide_eq_true_eq, decide_eq_false_iff_not, Int.not_lt, Int.not_le, ne_eq, Decidable.not_not] at h1
    refine WC.seq ?_
    refine WC.region ?_
    refine SL.pure rfl rfl rfl (PureOp.assign rfl) ?_
    refine SL.nil_then ?_
    refine WC.ret ?_
    refine QX.ret_then ?_
    refine QX.ret1 rfl rfl ?_
    intro w hw
    exact ⟨_, rfl, fun q => by cases q⟩
  · try simp only [Bool.and_eq_true, Bool.or_eq_true, Bool.not_eq_true', Bool.not_eq_false', Bool.and_eq_false_iff, Bool.or_eq_false_iff, decide_eq_true_eq, decide_eq_false_iff_not, Int.not_lt, Int.not_le, ne_eq, Decidable.not_not] at h1
    have hab : an ≤ 1000 := by omega
    have hdb : u3.l.length ≤ 1000 := by omega
    have hfb : fn ≤ 1000 := by omega
    have hrb : rn ≤ 1000 := by omega
    have htb : u1.l.length ≤ 1000 := by omega
    refine WC.skip ?_
    refine QX.then_ ?_
    refine WC.seq ?_
    refine WC.seq ?_
    refine WC.region ?_
    refine SL.pure rfl rfl rfl (PureOp.assign rfl) ?_
    refine SL.nil_then ?_
    refine WC.block ?_
    refine WC.loop (σ := Nat) (fun q_ => [(0, 0, .agg #[.slice aao an acap, .slice u3.ao u3.l.length u3.cap]), (1, 0, .agg #[.slice fao fn fcap, .slice rao rn rcap, .slice u1.ao u1.l.length u1.cap, .slice u2.ao u2.l.length u2.cap]), (2, 0, .slice wao wn wcap), (3, 0, .pointer (some ⟨b1, 0, none⟩)), (4, 0, .pointer (some ⟨b2, 0, none⟩)), (8, 0, .pointer (some ⟨b1, 0, none⟩)), (9, 0, .slice aao an acap), (10, 0, .int .i64 ((an : Nat) : Int)), (11, 0, .bool (decide (20 < ((an : Nat) : Int)))), (12, 0, .bool (decide (20 < ((an : Nat) : Int)))), (17, 0, .bool ((decide (20 < ((an : Nat) : Int))) || (decide (40 < ((u3.l.length : Nat) : Int))))), (18, 0, .bool ((decide (20 < ((an : Nat) : Int))) || (decide (40 < ((u3.l.length : Nat) : Int))))), (23, 0, .bool (((decide (20 < ((an : Nat) : Int))) || (decide (40 < ((u3.l.length : Nat) : Int)))) || (decide (60 < ((fn : Nat) : Int))))), (24, 0, .bool (((decide (20 < ((an : Nat) : Int))) || (decide (40 < ((u3.l.length : Nat) : Int)))) || (decide (60 < ((fn : Nat) : Int))))), (29, 0, .bool ((((decide (20 < ((an : Nat) : Int))) || (decide (40 < ((u3.l.length : Nat) : Int)))) || (decide (60 < ((fn : Nat) : Int)))) || (decide (20 < ((rn : Nat) : Int))))), (30, 0, .bool ((((decide (20 < ((an : Nat) : Int))) || (decide (40 < ((u3.l.length : Nat) : Int)))) || (decide (60 < ((fn : Nat) : Int)))) || (decide (20 < ((rn : Nat) : Int))))), (35, 0, .bool (((((decide (20 < ((an : Nat) : Int))) || (decide (40 < ((u3.l.length : Nat) : Int)))) || (decide (60 < ((fn : Nat) : Int)))) || (decide (20 < ((rn : Nat) : Int)))) || (decide (20 < ((u1.l.length : Nat) : Int))))), (36, 0, .bool (((((decide (20 < ((an : Nat) : Int))) || (decide (40 < ((u3.l.length : Nat) : Int)))) || (decide (60 < ((fn : Nat) : Int)))) || (decide (20 < ((rn : Nat) : Int)))) || (decide (20 < ((u1.l.length : Nat) : Int))))), (40, 0, .bool ((((((decide (20 < ((an : Nat) : Int))) || (decide (40 < ((u3.l.length : Nat) : Int)))) || (decide (60 < ((fn : Nat) : Int)))) || (decide (20 < ((rn : Nat) : Int)))) || (decide (20 < ((u1.l.length : Nat) : Int)))) || (decide (20 < ((wn : Nat) : Int))))), (7, 0, .int .i64 ((q_ : Nat) : Int))]) (fun q_ => [Item.cells b1 [.slice aao an acap, .slice u3.ao u3.l.length u3.cap] 39, Item.cells b2 [.slice fao fn fcap, .slice rao rn rcap, .slice u1.ao u1.l.length u1.cap, .slice u2.ao u2.l.length u2.cap] 27]) (fun q_ => q_ ≤ wn ∧ ∀ j, j < q_ → (-1099511627776 ≤ (nth wl j).1.2.2.2.2.2.1 ∧ (nth wl j).1.2.2.2.2.2.1 ≤ 1099511627776)) (fun q_ => wn - q_) 2 (0) (⟨Nat.zero_le _, fun j hj => absurd hj (Nat.not_lt_zero _)⟩) ⟨rfl, rfl, rfl, rfl, rfl, rfl, rfl, rfl, rfl, rfl, rfl, rfl, rfl, rfl, rfl, rfl, rfl, rfl, rfl, rfl, rfl, rfl, rfl, rfl, rfl, rfl, rfl, rfl, rfl, rfl, rfl, rfl, rfl, rfl, rfl, rfl, rfl, rfl, rfl, rfl, trivial⟩ rfl ?_
    rintro i ⟨hi, hd⟩
    refine WC.seq ?_
    refine WC.seq ?_
    refine WC.region ?_
    refine SL.pure rfl rfl rfl (PureOp.move rfl) ?_
    refine SL.pure rfl rfl rfl (PureOp.move rfl) ?_
    refine SL.pure rfl rfl rfl (PureOp.len rfl Try.underlying45) ?_
    refine SL.pure rfl rfl rfl (PureOp.lss rfl rfl) ?_
    refine SL.nil_then ?_
    refine WC.cond rfl (fun h2 => ?_) (fun h2 => ?_)
    · try simp only [Bool.and_eq_true, Bool.or_eq_true, Bool.not_eq_true', Bool.not_eq_false', Bool.and_eq_false_iff, Bool.or_eq_false_iff, decide_eq_true_eq, decide_eq_false_iff_not, Int.not_lt, Int.not_le, ne_eq, Decidable.not_not] at h2
      refine WC.skip ?_
      refine QX.then_ ?_
      refine WC.seq ?_
      refine WC.block ?_
      refine WC.seq ?_
      refine WC.region ?_
      refine SL.pure rfl rfl rfl (PureOp.move rfl) ?_
      refine SL.pure rfl rfl rfl (PureOp.move rfl) ?_
      refine SL.pure rfl rfl rfl (PureOp.indexAddrN Try.underlying45 sz62 rfl rfl (AoOk.in_ sW) (fun _ => by omega)) ?_
      refine SL.pure rfl rfl rfl (PureOp.fieldAddr 0 Try.underlying62 rfl rfl sz60 rfl) ?_
      refine SL.pure rfl rfl rfl (PureOp.fieldAddr 5 Try.underlying60 rfl rfl sz3 rfl) ?_
      refine SL.pure rfl rfl rfl (PureOp.load (v := .int .i64 ((nth wl i).1.2.2.2.2.2.1)) Try.underlying3 rfl rfl (fun _ => (CellIs.in_ sW i 5 (by omega) (by omega)))) ?_
      refine SL.pure rfl rfl rfl (PureOp.lss rfl rfl) ?_
      refine SL.pure rfl rfl rfl (PureOp.move rfl) ?_
      refine SL.newg 54 false rfl ?_
      refine SL.gpure (c := 1) rfl rfl rfl rfl rfl rfl rfl (PureOp.move rfl) ?_
      refine SL.gpure (c := 1) rfl rfl rfl rfl rfl rfl rfl (PureOp.move rfl) ?_
      refine SL.gpure (c := 1) rfl rfl rfl rfl rfl rfl rfl (PureOp.indexAddrN Try.underlying45 sz62 rfl rfl (AoOk.in_ sW) (by intro hg; simp [gval] at hg; omega)) ?_
      refine SL.gpure (c := 1) rfl rfl rfl rfl rfl rfl rfl (PureOp.fieldAddr 0 Try.underlying62 rfl rfl sz60 rfl) ?_
      refine SL.gpure (c := 1) rfl rfl rfl rfl rfl rfl rfl (PureOp.fieldAddr 5 Try.underlying60 rfl rfl sz3 rfl) ?_
      refine SL.gpure (c := 1) rfl rfl rfl rfl rfl rfl rfl (PureOp.load (v := .int .i64 ((nth wl i).1.2.2.2.2.2.1)) Try.underlying3 rfl rfl (by intro hg; simp [gval] at hg; exact (CellIs.in_ sW i 5 (by omega) (by omega)))) ?_
      refine SL.gpure (c := 1) rfl rfl rfl rfl rfl rfl rfl (PureOp.gtr rfl rfl) ?_
      refine SL.pure rfl rfl rfl (PureOp.or_ rfl rfl rfl rfl) ?_
      refine SL.nil_then ?_
      refine WC.cond rfl (fun h3 => ?_) (fun h3 => ?_)
      · try simp only [Bool.and_eq_true, Bool.or_eq_true, Bool.not_eq_true', Bool.not_eq_false', Bool.and_eq_false_iff, Bool.or_eq_false_iff, decide_eq_true_eq, decide_eq_false_iff_not, Int.not_lt, Int.not_le, ne_eq, Decidable.not_not] at h3
        refine WC.seq ?_
        refine WC.region ?_
        refine SL.pure rfl rfl rfl (PureOp.assign rfl) ?_
        refine SL.nil_then ?_
        refine WC.ret ?_
        refine QX.ret_in ?_
        refine QX.ret_then ?_
        refine QX.ret_then ?_
        refine QX.ret_in ?_
        refine QX.ret_then ?_
        refine QX.ret1 rfl rfl ?_
        intro w hw
        exact ⟨_, rfl, fun q => by cases q⟩
      · try simp only [Bool.and_eq_true, Bool.or_eq_true, Bool.not_eq_true', Bool.not_eq_false', Bool.and_eq_false_iff, Bool.or_eq_false_iff, decide_eq_true_eq, decide_eq_false_iff_not, Int.not_lt, Int.not_le, ne_eq, Decidable.not_not] at h3
        refine WC.skip ?_
        refine QX.normal_in ?_
        refine QX.then_ ?_
        refine WC.region ?_
        refine SL.pure rfl rfl rfl (PureOp.move rfl) ?_
        refine SL.pure rfl rfl rfl (PureOp.addN (k := 1) rfl rfl (fun _ => by omega)) ?_
        refine SL.pure rfl rfl rfl (PureOp.assign rfl) ?_
        refine SL.nil ?_
        refine QX.round 2 (i + 1) ⟨⟨(by first | omega | (dsimp only; omega)), fun j hj => by
          rcases Nat.lt_succ_iff_lt_or_eq.1 hj with h | rfl
          · exact hd j h
          · omega⟩, by first | omega | (dsimp only; omega)⟩ ⟨rfl, rfl, rfl, rfl, rfl, rfl, rfl, rfl, rfl, rfl, rfl, rfl, rfl, rfl, rfl, rfl, rfl, rfl, rfl, rfl, rfl, rfl, rfl, rfl, rfl, rfl, rfl, rfl, rfl, rfl, rfl, rfl, rfl, rfl, rfl, rfl, rfl, rfl, rfl, rfl, trivial⟩ rfl
    · try simp only [Bool.and_eq_true, Bool.or_eq_true, Bool.not_eq_true', Bool.not_eq_false', Bool.and_eq_false_iff, Bool.or_eq_false_iff, decide_eq_true_eq, decide_eq_false_iff_not, Int.not_lt, Int.not_le, ne_eq, Decidable.not_not] at h2
      refine WC.exit ?_
      refine QX.exit_then ?_
      refine QX.exit_then ?_
      refine QX.exit_hit ?_
      refine QX.then_ ?_
      refine WC.seq ?_
      refine WC.region ?_
      refine SL.pure rfl rfl rfl (PureOp.loads (vs := [.slice aao an acap, .slice u3.ao u3.l.length u3.cap]) Try.underlying39 rfl rfl (fun _ => (RowIs.cells 0 0 2 rfl rfl)) sz39) ?_
      refine SL.calln (fun L n => LnZ L n 300 (∀ j, j < an → ZA al j)) rfl rfl rfl rfl rfl rfl callable24 (fun w hw => places_any u3 al aao an acap han w (sA.below hw.below) hab dl hdl (sD.below hw.below) hdb (fun j hj => (hAi j hj).below hw.below) (by omega) (by omega)) ?_
      intro ea ec en eL heL
      have heLl := heL.ln.le
      refine SL.norm [_, _, _] rfl ?_
      refine SL.pure rfl rfl rfl (PureOp.len rfl Try.underlying63) ?_
      refine SL.pure rfl rfl rfl (PureOp.eql rfl rfl) ?_
      refine SL.pure rfl rfl rfl (PureOp.move rfl) ?_
      refine SL.split 67 rfl (fun hs67 => ?_) (fun hs67 => ?_)
      · try simp only [Bool.and_eq_true, Bool.or_eq_true, Bool.not_eq_true', Bool.not_eq_false', Bool.and_eq_false_iff, Bool.or_eq_false_iff, decide_eq_true_eq, decide_eq_false_iff_not, Int.not_lt, Int.not_le, ne_eq, Decidable.not_not] at hs67
        refine SL.ung rfl rfl rfl rfl ?_
        refine SL.pure rfl rfl rfl (PureOp.loads (vs := [.slice aao an acap, .slice u3.ao u3.l.length u3.cap]) Try.underlying39 rfl rfl (fun _ => (RowIs.cells 0 0 2 rfl rfl)) sz39) ?_
        refine SL.ung rfl rfl rfl rfl ?_
        refine SL.pure rfl rfl rfl (PureOp.loads (vs := [.slice fao fn fcap, .slice rao rn rcap, .slice u1.ao u1.l.length u1.cap, .slice u2.ao u2.l.length u2.cap]) Try.underlying27 rfl rfl (fun _ => (RowIs.cells 1 0 4 rfl rfl)) sz27) ?_
        refine SL.ung rfl rfl rfl rfl ?_
        refine SL.calln (fun L n => LnB L n 200000000) rfl rfl rfl rfl rfl rfl callable25 (fun w hw => tariff_any w u3 al aao an acap han (sA.below hw.below) hab u1 u2 fl rl rao rn rcap fao fn fcap hfn hrn (hf.below hw.below) (hr.below hw.below) hfb hrb tl htl (sR.below hw.below) htb (fun i hi => (hRu i hi).below hw.below) (fun i hi => (hRt i hi).below hw.below) hFa (by omega) (by omega) (by omega)) ?_
        intro ga gc gn gL hgL
        have hgLl := hgL.le
        refine SL.norm [_, _, _, _] rfl ?_
        refine SL.ung rfl rfl rfl rfl ?_
        refine SL.pure rfl rfl rfl (PureOp.len rfl Try.underlying63) ?_
        refine SL.ung rfl rfl rfl rfl ?_
        refine SL.pure rfl rfl rfl (PureOp.eql rfl rfl) ?_
        refine SL.pure rfl rfl rfl (PureOp.pickT rfl rfl) ?_
        refine SL.pure rfl rfl rfl (PureOp.assign rfl) ?_
        refine SL.nil_then ?_
        refine WC.ret ?_
        refine QX.ret1 rfl rfl ?_
        intro w hw
        exact ⟨_, rfl, fun _ => ⟨⟨by omega, by omega, by omega, by omega⟩, fun j hj => hd j (by omega), heL.z (by simpa using hs67)⟩⟩
      · try simp only [Bool.and_eq_true, Bool.or_eq_true, Bool.not_eq_true', Bool.not_eq_false', Bool.and_eq_false_iff, Bool.or_eq_false_iff, decide_eq_true_eq, decide_eq_false_iff_not, Int.not_lt, Int.not_le, ne_eq, Decidable.not_not] at hs67
        refine SL.off rfl rfl rfl rfl rfl rfl ?_
        refine SL.off rfl rfl rfl rfl rfl rfl ?_
        refine SL.off rfl rfl rfl rfl rfl rfl ?_
        refine SL.off rfl rfl rfl rfl rfl rfl ?_
        refine SL.off rfl rfl rfl rfl rfl rfl ?_
        refine SL.pure rfl rfl rfl (PureOp.pickF rfl rfl) ?_
        refine SL.pure rfl rfl rfl (PureOp.assign rfl) ?_
        refine SL.nil_then ?_
        refine WC.ret ?_
        refine QX.ret1 rfl rfl ?_
        intro w hw
        exact ⟨_, rfl, fun q => by simp_all⟩

end Go.Proofs.Ytblmafknmeicfaa
