import Derived.Test.YtipmdakhmpaemaaRfP
namespace Go.Proofs.Ytipmdakhmpaemaa
open Go Go.RowKit Eng
set_option linter.unusedVariables false
set_option linter.unusedSimpArgs false

set_option maxHeartbeats 4000000 in
set_option maxRecDepth 100000 in
theorem sums_law (t : TK) (l : List Cp) (ao : Option Addr) (n cap : Nat) (hn : n = l.length) (w0 : World) (hz : SliceIn w0 11 ao n cap (rowsF enc65 l)) (hx : SliceIn w0 2 t.taxes.ao t.taxes.l.length t.taxes.cap (rowsF enc67 t.taxes.l)) (fee : Int) (more : Int) (hmore : 0 ≤ more ∧ more ≤ 65535) (hv64 : ∀ c ∈ l, In64 c.2.2.2) (hx64 : ∀ y ∈ t.taxes.l, In64 y.2) : FnC Try.prog 6 [.agg #[.int .i64 t.num, .string t.loc, .string t.p1, .string t.p2, .string t.p3, .slice ao n cap, .int .i64 t.fare, .slice t.taxes.ao t.taxes.l.length t.taxes.cap, .int .i64 t.total, .int .i64 t.issued], .int .i64 fee, .int .u16 more] w0 fun v w' => v = .bool true := by
  refine fnc (N := 189) Try.func6 rfl rfl rfl ?_
  refine WC.seq ?_
  refine WC.region ?_
  refine SL.box rfl rfl rfl (fun b1 hb1 => ?_)
  refine SL.norm [_] rfl ?_
  refine SL.pure rfl rfl rfl (PureOp.assign rfl) ?_
  refine SL.nil_then ?_
  refine WC.seq ?_
  refine WC.seq ?_
  refine WC.region ?_
  refine SL.pure rfl rfl rfl (PureOp.loads (vs := [.int .i64 t.num, .string t.loc, .string t.p1, .string t.p2, .string t.p3, .slice ao n cap, .int .i64 t.fare, .slice t.taxes.ao t.taxes.l.length t.taxes.cap, .int .i64 t.total, .int .i64 t.issued]) Try.underlying27 rfl rfl (fun _ => (RowIs.cells 0 0 10 rfl rfl)) sz27) ?_
  refine SL.callv rfl rfl rfl rfl rfl rfl callable12 (fun w hw => odd_ok t l ao n cap hn w (hz.below hw.below) (hx.below hw.below)) ?_
  rintro v ⟨ob, rfl, hodd⟩
  refine SL.norm [_] rfl ?_
  refine SL.nil_then ?_
  refine WC.cond rfl (fun h1 => ?_) (fun h1 => ?_)
  · try simp only [Bool.and_eq_true, Bool.or_eq_true, Bool.not_eq_true', Bool.not_eq_false', Bool.and_eq_false_iff, Bool.or_eq_false_iff, decide_eq_true_eq, decide_eq_false_iff_not, Int.not_lt, Int.not_le, ne_eq, Decidable.not_not] at h1
    refine WC.seq ?_
    refine WC.region ?_
    refine SL.calle rfl rfl rfl rfl rfl rfl callable13 (fun w hw => knows_ok w) ?_
    refine SL.norm [_] rfl ?_
    refine SL.pure rfl rfl rfl (PureOp.assign rfl) ?_
    refine SL.nil_then ?_
    refine WC.ret ?_
    refine QX.ret_then ?_
    refine QX.ret1 rfl rfl ?_
    intro w hw
    rfl
  · try simp only [Bool.and_eq_true, Bool.or_eq_true, Bool.not_eq_true', Bool.not_eq_false', Bool.and_eq_false_iff, Bool.or_eq_false_iff, decide_eq_true_eq, decide_eq_false_iff_not, Int.not_lt, Int.not_le, ne_eq, Decidable.not_not] at h1
    have hO := hodd h1
    have hnb : n ≤ 1000 := by have q := hO.2.2.1; omega
    have hxb : t.taxes.l.length ≤ 1000 := by have q := hO.2.2.2; omega
    have h64 : ∀ x ∈ opens l, In64 x := fun x hq => by obtain ⟨c, hc, rfl⟩ := opens_mem hq; exact hv64 c hc
    have h64x : ∀ x ∈ amts t.taxes.l, In64 x := fun x hq => by obtain ⟨c, hc, rfl⟩ := amts_mem hq; exact hx64 c hc
    refine WC.skip ?_
    refine QX.then_ ?_
    refine WC.seq ?_
    refine WC.region ?_
    refine SL.pure rfl rfl rfl (PureOp.loads (vs := [.int .i64 t.num, .string t.loc, .string t.p1, .string t.p2, .string t.p3, .slice ao n cap, .int .i64 t.fare, .slice t.taxes.ao t.taxes.l.length t.taxes.cap, .int .i64 t.total, .int .i64 t.issued]) Try.underlying27 rfl rfl (fun _ => (RowIs.cells 0 0 10 rfl rfl)) sz27) ?_
    refine SL.pure rfl rfl rfl (PureOp.move rfl) ?_
    refine SL.calle rfl rfl rfl rfl rfl rfl callable16 (fun w hw => of_ok t l ao n cap hn w (hz.below hw.below) hnb (hx.below hw.below) hxb fee) ?_
    refine SL.norm [_] rfl ?_
    refine SL.pure rfl rfl rfl (PureOp.move rfl) ?_
    refine SL.pure rfl rfl rfl (PureOp.extract rfl rfl) ?_
    refine SL.pure rfl rfl rfl (PureOp.extract rfl rfl) ?_
    refine SL.alloc rfl rfl zero34 (fun b2 hb2 => ?_)
    refine SL.norm [_, _] rfl ?_
    refine SL.store 1 rfl rfl rfl rfl sz34 rfl rfl ?_
    refine SL.norm [_, _] rfl ?_
    refine SL.pure rfl rfl rfl (PureOp.assign rfl) ?_
    refine SL.nil_then ?_
    refine WC.seq ?_
    refine WC.seq ?_
    refine WC.region ?_
    refine SL.pure rfl rfl rfl (PureOp.move rfl) ?_
    refine SL.pure rfl rfl rfl (PureOp.neq rfl rfl) ?_
    refine SL.nil_then ?_
    refine WC.cond rfl (fun h2 => ?_) (fun h2 => ?_)
    · try simp only [Bool.and_eq_true, Bool.or_eq_true, Bool.not_eq_true', Bool.not_eq_false', Bool.and_eq_false_iff, Bool.or_eq_false_iff, decide_eq_true_eq, decide_eq_false_iff_not, Int.not_lt, Int.not_le, ne_eq, Decidable.not_not] at h2
      refine WC.seq ?_
      refine WC.region ?_
      refine SL.pure rfl rfl rfl (PureOp.loads (vs := [.int .i64 ((ofE l t.taxes.l fee).1.1), .int .i64 ((ofE l t.taxes.l fee).1.2.1), .int .i64 ((ofE l t.taxes.l fee).1.2.2.1), .int .i64 ((ofE l t.taxes.l fee).1.2.2.2)]) Try.underlying34 rfl rfl (fun _ => (RowIs.cells 1 0 4 rfl rfl)) sz34) ?_
      refine SL.pure rfl rfl rfl (PureOp.build bld34 rfl rfl) ?_
      refine SL.pure rfl rfl rfl (PureOp.eqla rfl rfl flat34 rfl) ?_
      refine SL.pure rfl rfl rfl (PureOp.move rfl) ?_
      refine SL.newg 33 true rfl ?_
      refine SL.gcalle (c := 1) rfl rfl rfl rfl rfl rfl rfl rfl rfl rfl callable13 (by intro hg; simp [gval] at hg; exact (fun w hw => knows_ok w)) ?_
      refine SL.norm [_, _] rfl ?_
      refine SL.pure rfl rfl rfl (PureOp.and_ rfl rfl rfl rfl) ?_
      refine SL.pure rfl rfl rfl (PureOp.assign rfl) ?_
      refine SL.nil_then ?_
      refine WC.ret ?_
      refine QX.ret_then ?_
      refine QX.ret1 rfl rfl ?_
      intro w hw
      rw [ofE_err h2]; rfl
    · try simp only [Bool.and_eq_true, Bool.or_eq_true, Bool.not_eq_true', Bool.not_eq_false', Bool.and_eq_false_iff, Bool.or_eq_false_iff, decide_eq_true_eq, decide_eq_false_iff_not, Int.not_lt, Int.not_le, ne_eq, Decidable.not_not] at h2
      obtain ⟨F, T, hF, hT, hFT, hfee, hU, hFo, hfit, hwh, hTa, hall⟩ := ofE_parts (l := l) (x := t.taxes.l) (fee := fee) h2 hO.1 hO.2.1
      have ea : ofE l t.taxes.l fee = ((F, T, min fee (F + T), F + T - min fee (F + T)), 0) := by rw [hall fee, if_neg (by omega)]
      have ez : ofE l t.taxes.l 0 = ((F, T, min 0 (F + T), F + T - min 0 (F + T)), 0) := by rw [hall 0, if_neg (by omega)]
      have eb : (ofE l t.taxes.l (fee + more)).2 = 2 ∨ ((ofE l t.taxes.l (fee + more)).2 = 0 ∧ (ofE l t.taxes.l (fee + more)).1.2.2.2 = F + T - min (fee + more) (F + T)) := by
        rw [hall (fee + more)]; split
        · exact .inl rfl
        · exact .inr ⟨rfl, rfl⟩
      have a1 : (ofE l t.taxes.l fee).1.1 = F := by rw [ea]
      have a2 : (ofE l t.taxes.l fee).1.2.1 = T := by rw [ea]
      have a3 : (ofE l t.taxes.l fee).1.2.2.1 = min fee (F + T) := by rw [ea]
      have a4 : (ofE l t.taxes.l fee).1.2.2.2 = F + T - min fee (F + T) := by rw [ea]
      have z3 : (ofE l t.taxes.l 0).1.2.2.1 = min 0 (F + T) := by rw [ez]
      have z4 : (ofE l t.taxes.l 0).1.2.2.2 = F + T - min 0 (F + T) := by rw [ez]
      have z0 : (ofE l t.taxes.l 0).2 = 0 := by rw [ez]
      have u1 : (unusedE l).1 = F := by rw [hU]
      have u2 : (unusedE l).2 = 0 := by rw [hU]
      refine WC.skip ?_
      refine QX.then_ ?_
      refine WC.seq ?_
      refine WC.region ?_
      refine SL.pure rfl rfl rfl (PureOp.loads (vs := [.int .i64 t.num, .string t.loc, .string t.p1, .string t.p2, .string t.p3, .slice ao n cap, .int .i64 t.fare, .slice t.taxes.ao t.taxes.l.length t.taxes.cap, .int .i64 t.total, .int .i64 t.issued]) Try.underlying27 rfl rfl (fun _ => (RowIs.cells 0 0 10 rfl rfl)) sz27) ?_
      refine SL.pure rfl rfl rfl (PureOp.move rfl) ?_
      refine SL.pure rfl rfl rfl (PureOp.move rfl) ?_
      refine SL.pure rfl rfl rfl (PureOp.conv rfl Try.underlying59 Try.underlying3) ?_
      refine SL.reval 40 (.int .i64 more) rfl (by rw [i64_id (by omega)]) ?_
      refine SL.pure rfl rfl rfl (PureOp.add rfl rfl (fun _ => by first | omega | (have q3 := ofE_fits l t.taxes.l fee; omega))) ?_
      refine SL.calle rfl rfl rfl rfl rfl rfl callable16 (fun w hw => of_ok t l ao n cap hn w (hz.below hw.below) hnb (hx.below hw.below) hxb (fee + more)) ?_
      refine SL.norm [_, _] rfl ?_
      refine SL.pure rfl rfl rfl (PureOp.move rfl) ?_
      refine SL.pure rfl rfl rfl (PureOp.extract rfl rfl) ?_
      refine SL.pure rfl rfl rfl (PureOp.extract rfl rfl) ?_
      refine SL.alloc rfl rfl zero34 (fun b3 hb3 => ?_)
      refine SL.norm [_, _, _] rfl ?_
      refine SL.store 2 rfl rfl rfl rfl sz34 rfl rfl ?_
      refine SL.norm [_, _, _] rfl ?_
      refine SL.pure rfl rfl rfl (PureOp.assign rfl) ?_
      refine SL.nil_then ?_
      refine WC.seq ?_
      refine WC.region ?_
      refine SL.pure rfl rfl rfl (PureOp.loads (vs := [.int .i64 t.num, .string t.loc, .string t.p1, .string t.p2, .string t.p3, .slice ao n cap, .int .i64 t.fare, .slice t.taxes.ao t.taxes.l.length t.taxes.cap, .int .i64 t.total, .int .i64 t.issued]) Try.underlying27 rfl rfl (fun _ => (RowIs.cells 0 0 10 rfl rfl)) sz27) ?_
      refine SL.calle rfl rfl rfl rfl rfl rfl callable16 (fun w hw => of_ok t l ao n cap hn w (hz.below hw.below) hnb (hx.below hw.below) hxb 0) ?_
      refine SL.norm [_, _, _] rfl ?_
      refine SL.pure rfl rfl rfl (PureOp.move rfl) ?_
      refine SL.pure rfl rfl rfl (PureOp.extract rfl rfl) ?_
      refine SL.pure rfl rfl rfl (PureOp.extract rfl rfl) ?_
      refine SL.alloc rfl rfl zero34 (fun b4 hb4 => ?_)
      refine SL.norm [_, _, _, _] rfl ?_
      refine SL.store 3 rfl rfl rfl rfl sz34 rfl rfl ?_
      refine SL.norm [_, _, _, _] rfl ?_
      refine SL.pure rfl rfl rfl (PureOp.assign rfl) ?_
      refine SL.nil_then ?_
      refine WC.seq ?_
      refine WC.region ?_
      refine SL.pure rfl rfl rfl (PureOp.loads (vs := [.int .i64 t.num, .string t.loc, .string t.p1, .string t.p2, .string t.p3, .slice ao n cap, .int .i64 t.fare, .slice t.taxes.ao t.taxes.l.length t.taxes.cap, .int .i64 t.total, .int .i64 t.issued]) Try.underlying27 rfl rfl (fun _ => (RowIs.cells 0 0 10 rfl rfl)) sz27) ?_
      refine SL.calle rfl rfl rfl rfl rfl rfl callable14 (fun w hw => unused_ok t l ao n cap hn w (hz.below hw.below) hnb (hx.below hw.below) hxb) ?_
      refine SL.norm [_, _, _, _] rfl ?_
      refine SL.pure rfl rfl rfl (PureOp.move rfl) ?_
      refine SL.pure rfl rfl rfl (PureOp.extract rfl rfl) ?_
      refine SL.pure rfl rfl rfl (PureOp.extract rfl rfl) ?_
      refine SL.pure rfl rfl rfl (PureOp.assign rfl) ?_
      refine SL.pure rfl rfl rfl (PureOp.assign rfl) ?_
      refine SL.nil_then ?_
      refine WC.seq ?_
      refine WC.seq ?_
      refine WC.region ?_
      refine SL.pure rfl rfl rfl (PureOp.move rfl) ?_
      refine SL.pure rfl rfl rfl (PureOp.eql rfl rfl) ?_
      refine SL.pure rfl rfl rfl (PureOp.move rfl) ?_
      refine SL.newg 57 true rfl ?_
      refine SL.gpure (c := 1) rfl rfl rfl rfl rfl rfl rfl (PureOp.fieldAddrT 3 Try.underlying34 rfl sz3 rfl rfl) ?_
      refine SL.gpure (c := 1) rfl rfl rfl rfl rfl rfl rfl (PureOp.load (v := .int .i64 ((ofE l t.taxes.l (fee + more)).1.2.2.2)) Try.underlying3 rfl rfl (fun _ => (CellIs.cells 2 rfl rfl))) ?_
      refine SL.gpure (c := 1) rfl rfl rfl rfl rfl rfl rfl (PureOp.fieldAddrT 3 Try.underlying34 rfl sz3 rfl rfl) ?_
      refine SL.gpure (c := 1) rfl rfl rfl rfl rfl rfl rfl (PureOp.load (v := .int .i64 ((ofE l t.taxes.l fee).1.2.2.2)) Try.underlying3 rfl rfl (fun _ => (CellIs.cells 1 rfl rfl))) ?_
      refine SL.gpure (c := 1) rfl rfl rfl rfl rfl rfl rfl (PureOp.gtr rfl rfl) ?_
      refine SL.pure rfl rfl rfl (PureOp.and_ rfl rfl rfl rfl) ?_
      refine SL.pure rfl rfl rfl (PureOp.move rfl) ?_
      refine SL.newg 64 false rfl ?_
      refine SL.gpure (c := 2) rfl rfl rfl rfl rfl rfl rfl (PureOp.move rfl) ?_
      refine SL.gpure (c := 2) rfl rfl rfl rfl rfl rfl rfl (PureOp.neq rfl rfl) ?_
      refine SL.gpure (c := 2) rfl rfl rfl rfl rfl rfl rfl (PureOp.move rfl) ?_
      refine SL.newg 67 true rfl ?_
      refine SL.gpure (c := 3) rfl rfl rfl rfl rfl rfl rfl (PureOp.move rfl) ?_
      refine SL.gpure (c := 3) rfl rfl rfl rfl rfl rfl rfl (PureOp.neq rfl rfl) ?_
      refine SL.gpure (c := 2) rfl rfl rfl rfl rfl rfl rfl (PureOp.and_ rfl rfl rfl rfl) ?_
      refine SL.pure rfl rfl rfl (PureOp.or_ rfl rfl rfl rfl) ?_
      refine SL.pure rfl rfl rfl (PureOp.move rfl) ?_
      refine SL.newg 72 false rfl ?_
      refine SL.gpure (c := 4) rfl rfl rfl rfl rfl rfl rfl (PureOp.move rfl) ?_
      refine SL.gpure (c := 4) rfl rfl rfl rfl rfl rfl rfl (PureOp.neq rfl rfl) ?_
      refine SL.pure rfl rfl rfl (PureOp.or_ rfl rfl rfl rfl) ?_
      refine SL.pure rfl rfl rfl (PureOp.move rfl) ?_
      refine SL.newg 76 false rfl ?_
      refine SL.gpure (c := 5) rfl rfl rfl rfl rfl rfl rfl (PureOp.fieldAddrT 2 Try.underlying34 rfl sz3 rfl rfl) ?_
      refine SL.gpure (c := 5) rfl rfl rfl rfl rfl rfl rfl (PureOp.load (v := .int .i64 ((ofE l t.taxes.l 0).1.2.2.1)) Try.underlying3 rfl rfl (fun _ => (CellIs.cells 3 rfl rfl))) ?_
      refine SL.gpure (c := 5) rfl rfl rfl rfl rfl rfl rfl (PureOp.neq rfl rfl) ?_
      refine SL.pure rfl rfl rfl (PureOp.or_ rfl rfl rfl rfl) ?_
      refine SL.pure rfl rfl rfl (PureOp.move rfl) ?_
      refine SL.newg 81 false rfl ?_
      refine SL.gpure (c := 6) rfl rfl rfl rfl rfl rfl rfl (PureOp.fieldAddrT 3 Try.underlying34 rfl sz3 rfl rfl) ?_
      refine SL.gpure (c := 6) rfl rfl rfl rfl rfl rfl rfl (PureOp.load (v := .int .i64 ((ofE l t.taxes.l 0).1.2.2.2)) Try.underlying3 rfl rfl (fun _ => (CellIs.cells 3 rfl rfl))) ?_
      refine SL.gpure (c := 6) rfl rfl rfl rfl rfl rfl rfl (PureOp.fieldAddrT 0 Try.underlying34 rfl sz3 rfl rfl) ?_
      refine SL.gpure (c := 6) rfl rfl rfl rfl rfl rfl rfl (PureOp.load (v := .int .i64 ((ofE l t.taxes.l fee).1.1)) Try.underlying3 rfl rfl (fun _ => (CellIs.cells 1 rfl rfl))) ?_
      refine SL.gpure (c := 6) rfl rfl rfl rfl rfl rfl rfl (PureOp.fieldAddrT 1 Try.underlying34 rfl sz3 rfl rfl) ?_
      refine SL.gpure (c := 6) rfl rfl rfl rfl rfl rfl rfl (PureOp.load (v := .int .i64 ((ofE l t.taxes.l fee).1.2.1)) Try.underlying3 rfl rfl (fun _ => (CellIs.cells 1 rfl rfl))) ?_
      refine SL.gpure (c := 6) rfl rfl rfl rfl rfl rfl rfl (PureOp.add rfl rfl (by intro hg; simp [gval] at hg; first | omega | (have q3 := ofE_fits l t.taxes.l fee; omega))) ?_
      refine SL.gpure (c := 6) rfl rfl rfl rfl rfl rfl rfl (PureOp.neq rfl rfl) ?_
      refine SL.pure rfl rfl rfl (PureOp.or_ rfl rfl rfl rfl) ?_
      refine SL.pure rfl rfl rfl (PureOp.move rfl) ?_
      refine SL.newg 91 false rfl ?_
      refine SL.gpure (c := 7) rfl rfl rfl rfl rfl rfl rfl (PureOp.move rfl) ?_
      refine SL.gpure (c := 7) rfl rfl rfl rfl rfl rfl rfl (PureOp.neq rfl rfl) ?_
      refine SL.pure rfl rfl rfl (PureOp.or_ rfl rfl rfl rfl) ?_
      refine SL.pure rfl rfl rfl (PureOp.move rfl) ?_
      refine SL.newg 95 false rfl ?_
      refine SL.gpure (c := 8) rfl rfl rfl rfl rfl rfl rfl (PureOp.move rfl) ?_
      refine SL.gpure (c := 8) rfl rfl rfl rfl rfl rfl rfl (PureOp.fieldAddrT 0 Try.underlying34 rfl sz3 rfl rfl) ?_
      refine SL.gpure (c := 8) rfl rfl rfl rfl rfl rfl rfl (PureOp.load (v := .int .i64 ((ofE l t.taxes.l fee).1.1)) Try.underlying3 rfl rfl (fun _ => (CellIs.cells 1 rfl rfl))) ?_
      refine SL.gpure (c := 8) rfl rfl rfl rfl rfl rfl rfl (PureOp.neq rfl rfl) ?_
      refine SL.pure rfl rfl rfl (PureOp.or_ rfl rfl rfl rfl) ?_
      refine SL.nil_then ?_
      refine WC.cond rfl (fun h3 => ?_) (fun h3 => ?_)
      · try simp only [Bool.and_eq_true, Bool.or_eq_true, Bool.not_eq_true', Bool.not_eq_false', Bool.and_eq_false_iff, Bool.or_eq_false_iff, decide_eq_true_eq, decide_eq_false_iff_not, Int.not_lt, Int.not_le, ne_eq, Decidable.not_not] at h3
        exact (by exfalso; simp only [a1, a2, a3, a4, z3, z4, z0, u1, u2, not_true_eq_false, or_false] at h3; omega)
      · try simp only [Bool.and_eq_true, Bool.or_eq_true, Bool.not_eq_true', Bool.not_eq_false', Bool.and_eq_false_iff, Bool.or_eq_false_iff, decide_eq_true_eq, decide_eq_false_iff_not, Int.not_lt, Int.not_le, ne_eq, Decidable.not_not] at h3
        refine WC.skip ?_
        refine QX.then_ ?_
        refine WC.seq ?_
        refine WC.region ?_
        refine SL.pure rfl rfl rfl (PureOp.assign rfl) ?_
        refine SL.nil_then ?_
        refine WC.seq ?_
        refine WC.region ?_
        refine SL.pure rfl rfl rfl (PureOp.assign rfl) ?_
        refine SL.nil_then ?_
        refine WC.seq ?_
        refine WC.seq ?_
        refine WC.region ?_
        refine SL.pure rfl rfl rfl (PureOp.assign rfl) ?_
        refine SL.nil_then ?_
        refine WC.block ?_
        refine WC.loop (σ := Nat × Int × Bool) (fun q_ => [(0, 0, .agg #[.int .i64 t.num, .string t.loc, .string t.p1, .string t.p2, .string t.p3, .slice ao n cap, .int .i64 t.fare, .slice t.taxes.ao t.taxes.l.length t.taxes.cap, .int .i64 t.total, .int .i64 t.issued]), (1, 0, .int .i64 fee), (2, 0, .int .u16 more), (3, 0, .pointer (some ⟨b1, 0, none⟩)), (6, 0, .bool false), (7, 0, .pointer (some ⟨b2, 0, none⟩)), (8, 0, .int .i64 ((ofE l t.taxes.l fee).2)), (9, 0, .pointer (some ⟨b3, 0, none⟩)), (10, 0, .int .i64 ((ofE l t.taxes.l (fee + more)).2)), (11, 0, .pointer (some ⟨b4, 0, none⟩)), (12, 0, .int .i64 ((ofE l t.taxes.l 0).2)), (13, 0, .int .i64 ((unusedE l).1)), (14, 0, .int .i64 ((unusedE l).2)), (19, 0, .agg #[.int .i64 t.num, .string t.loc, .string t.p1, .string t.p2, .string t.p3, .slice ao n cap, .int .i64 t.fare, .slice t.taxes.ao t.taxes.l.length t.taxes.cap, .int .i64 t.total, .int .i64 t.issued]), (20, 0, .bool ob), (22, 0, .tuple #[.agg #[.int .i64 ((ofE l t.taxes.l fee).1.1), .int .i64 ((ofE l t.taxes.l fee).1.2.1), .int .i64 ((ofE l t.taxes.l fee).1.2.2.1), .int .i64 ((ofE l t.taxes.l fee).1.2.2.2)], .int .i64 ((ofE l t.taxes.l fee).2)]), (23, 0, .agg #[.int .i64 t.num, .string t.loc, .string t.p1, .string t.p2, .string t.p3, .slice ao n cap, .int .i64 t.fare, .slice t.taxes.ao t.taxes.l.length t.taxes.cap, .int .i64 t.total, .int .i64 t.issued]), (24, 0, .int .i64 fee), (25, 0, .tuple #[.agg #[.int .i64 ((ofE l t.taxes.l fee).1.1), .int .i64 ((ofE l t.taxes.l fee).1.2.1), .int .i64 ((ofE l t.taxes.l fee).1.2.2.1), .int .i64 ((ofE l t.taxes.l fee).1.2.2.2)], .int .i64 ((ofE l t.taxes.l fee).2)]), (26, 0, .agg #[.int .i64 ((ofE l t.taxes.l fee).1.1), .int .i64 ((ofE l t.taxes.l fee).1.2.1), .int .i64 ((ofE l t.taxes.l fee).1.2.2.1), .int .i64 ((ofE l t.taxes.l fee).1.2.2.2)]), (27, 0, .int .i64 ((ofE l t.taxes.l fee).2)), (28, 0, .int .i64 ((ofE l t.taxes.l fee).2)), (29, 0, .bool (decide ((ofE l t.taxes.l fee).2 ≠ 0))), (36, 0, .tuple #[.agg #[.int .i64 ((ofE l t.taxes.l (fee + more)).1.1), .int .i64 ((ofE l t.taxes.l (fee + more)).1.2.1), .int .i64 ((ofE l t.taxes.l (fee + more)).1.2.2.1), .int .i64 ((ofE l t.taxes.l (fee + more)).1.2.2.2)], .int .i64 ((ofE l t.taxes.l (fee + more)).2)]), (37, 0, .agg #[.int .i64 t.num, .string t.loc, .string t.p1, .string t.p2, .string t.p3, .slice ao n cap, .int .i64 t.fare, .slice t.taxes.ao t.taxes.l.length t.taxes.cap, .int .i64 t.total, .int .i64 t.issued]), (38, 0, .int .i64 fee), (39, 0, .int .u16 more), (40, 0, .int .i64 more), (41, 0, .int .i64 (fee + more)), (42, 0, .tuple #[.agg #[.int .i64 ((ofE l t.taxes.l (fee + more)).1.1), .int .i64 ((ofE l t.taxes.l (fee + more)).1.2.1), .int .i64 ((ofE l t.taxes.l (fee + more)).1.2.2.1), .int .i64 ((ofE l t.taxes.l (fee + more)).1.2.2.2)], .int .i64 ((ofE l t.taxes.l (fee + more)).2)]), (43, 0, .agg #[.int .i64 ((ofE l t.taxes.l (fee + more)).1.1), .int .i64 ((ofE l t.taxes.l (fee + more)).1.2.1), .int .i64 ((ofE l t.taxes.l (fee + more)).1.2.2.1), .int .i64 ((ofE l t.taxes.l (fee + more)).1.2.2.2)]), (44, 0, .int .i64 ((ofE l t.taxes.l (fee + more)).2)), (45, 0, .tuple #[.agg #[.int .i64 ((ofE l t.taxes.l 0).1.1), .int .i64 ((ofE l t.taxes.l 0).1.2.1), .int .i64 ((ofE l t.taxes.l 0).1.2.2.1), .int .i64 ((ofE l t.taxes.l 0).1.2.2.2)], .int .i64 ((ofE l t.taxes.l 0).2)]), (46, 0, .agg #[.int .i64 t.num, .string t.loc, .string t.p1, .string t.p2, .string t.p3, .slice ao n cap, .int .i64 t.fare, .slice t.taxes.ao t.taxes.l.length t.taxes.cap, .int .i64 t.total, .int .i64 t.issued]), (47, 0, .tuple #[.agg #[.int .i64 ((ofE l t.taxes.l 0).1.1), .int .i64 ((ofE l t.taxes.l 0).1.2.1), .int .i64 ((ofE l t.taxes.l 0).1.2.2.1), .int .i64 ((ofE l t.taxes.l 0).1.2.2.2)], .int .i64 ((ofE l t.taxes.l 0).2)]), (48, 0, .agg #[.int .i64 ((ofE l t.taxes.l 0).1.1), .int .i64 ((ofE l t.taxes.l 0).1.2.1), .int .i64 ((ofE l t.taxes.l 0).1.2.2.1), .int .i64 ((ofE l t.taxes.l 0).1.2.2.2)]), (49, 0, .int .i64 ((ofE l t.taxes.l 0).2)), (50, 0, .tuple #[.int .i64 ((unusedE l).1), .int .i64 ((unusedE l).2)]), (51, 0, .agg #[.int .i64 t.num, .string t.loc, .string t.p1, .string t.p2, .string t.p3, .slice ao n cap, .int .i64 t.fare, .slice t.taxes.ao t.taxes.l.length t.taxes.cap, .int .i64 t.total, .int .i64 t.issued]), (52, 0, .tuple #[.int .i64 ((unusedE l).1), .int .i64 ((unusedE l).2)]), (53, 0, .int .i64 ((unusedE l).1)), (54, 0, .int .i64 ((unusedE l).2)), (55, 0, .int .i64 ((ofE l t.taxes.l (fee + more)).2)), (56, 0, .bool (decide ((ofE l t.taxes.l (fee + more)).2 = 0))), (57, 0, .bool (decide ((ofE l t.taxes.l (fee + more)).2 = 0))), (63, 0, .bool ((decide ((ofE l t.taxes.l (fee + more)).2 = 0)) && (decide ((ofE l t.taxes.l fee).1.2.2.2 < (ofE l t.taxes.l (fee + more)).1.2.2.2)))), (64, 0, .bool ((decide ((ofE l t.taxes.l (fee + more)).2 = 0)) && (decide ((ofE l t.taxes.l fee).1.2.2.2 < (ofE l t.taxes.l (fee + more)).1.2.2.2)))), (71, 0, .bool (((decide ((ofE l t.taxes.l (fee + more)).2 = 0)) && (decide ((ofE l t.taxes.l fee).1.2.2.2 < (ofE l t.taxes.l (fee + more)).1.2.2.2))) || ((decide ((ofE l t.taxes.l (fee + more)).2 ≠ 0)) && (decide ((ofE l t.taxes.l (fee + more)).2 ≠ 2))))), (72, 0, .bool (((decide ((ofE l t.taxes.l (fee + more)).2 = 0)) && (decide ((ofE l t.taxes.l fee).1.2.2.2 < (ofE l t.taxes.l (fee + more)).1.2.2.2))) || ((decide ((ofE l t.taxes.l (fee + more)).2 ≠ 0)) && (decide ((ofE l t.taxes.l (fee + more)).2 ≠ 2))))), (75, 0, .bool ((((decide ((ofE l t.taxes.l (fee + more)).2 = 0)) && (decide ((ofE l t.taxes.l fee).1.2.2.2 < (ofE l t.taxes.l (fee + more)).1.2.2.2))) || ((decide ((ofE l t.taxes.l (fee + more)).2 ≠ 0)) && (decide ((ofE l t.taxes.l (fee + more)).2 ≠ 2)))) || (decide ((ofE l t.taxes.l 0).2 ≠ 0)))), (76, 0, .bool ((((decide ((ofE l t.taxes.l (fee + more)).2 = 0)) && (decide ((ofE l t.taxes.l fee).1.2.2.2 < (ofE l t.taxes.l (fee + more)).1.2.2.2))) || ((decide ((ofE l t.taxes.l (fee + more)).2 ≠ 0)) && (decide ((ofE l t.taxes.l (fee + more)).2 ≠ 2)))) || (decide ((ofE l t.taxes.l 0).2 ≠ 0)))), (80, 0, .bool (((((decide ((ofE l t.taxes.l (fee + more)).2 = 0)) && (decide ((ofE l t.taxes.l fee).1.2.2.2 < (ofE l t.taxes.l (fee + more)).1.2.2.2))) || ((decide ((ofE l t.taxes.l (fee + more)).2 ≠ 0)) && (decide ((ofE l t.taxes.l (fee + more)).2 ≠ 2)))) || (decide ((ofE l t.taxes.l 0).2 ≠ 0))) || (decide ((ofE l t.taxes.l 0).1.2.2.1 ≠ 0)))), (81, 0, .bool (((((decide ((ofE l t.taxes.l (fee + more)).2 = 0)) && (decide ((ofE l t.taxes.l fee).1.2.2.2 < (ofE l t.taxes.l (fee + more)).1.2.2.2))) || ((decide ((ofE l t.taxes.l (fee + more)).2 ≠ 0)) && (decide ((ofE l t.taxes.l (fee + more)).2 ≠ 2)))) || (decide ((ofE l t.taxes.l 0).2 ≠ 0))) || (decide ((ofE l t.taxes.l 0).1.2.2.1 ≠ 0)))), (90, 0, .bool ((((((decide ((ofE l t.taxes.l (fee + more)).2 = 0)) && (decide ((ofE l t.taxes.l fee).1.2.2.2 < (ofE l t.taxes.l (fee + more)).1.2.2.2))) || ((decide ((ofE l t.taxes.l (fee + more)).2 ≠ 0)) && (decide ((ofE l t.taxes.l (fee + more)).2 ≠ 2)))) || (decide ((ofE l t.taxes.l 0).2 ≠ 0))) || (decide ((ofE l t.taxes.l 0).1.2.2.1 ≠ 0))) || (decide ((ofE l t.taxes.l 0).1.2.2.2 ≠ ((ofE l t.taxes.l fee).1.1) + ((ofE l t.taxes.l fee).1.2.1))))), (91, 0, .bool ((((((decide ((ofE l t.taxes.l (fee + more)).2 = 0)) && (decide ((ofE l t.taxes.l fee).1.2.2.2 < (ofE l t.taxes.l (fee + more)).1.2.2.2))) || ((decide ((ofE l t.taxes.l (fee + more)).2 ≠ 0)) && (decide ((ofE l t.taxes.l (fee + more)).2 ≠ 2)))) || (decide ((ofE l t.taxes.l 0).2 ≠ 0))) || (decide ((ofE l t.taxes.l 0).1.2.2.1 ≠ 0))) || (decide ((ofE l t.taxes.l 0).1.2.2.2 ≠ ((ofE l t.taxes.l fee).1.1) + ((ofE l t.taxes.l fee).1.2.1))))), (94, 0, .bool (((((((decide ((ofE l t.taxes.l (fee + more)).2 = 0)) && (decide ((ofE l t.taxes.l fee).1.2.2.2 < (ofE l t.taxes.l (fee + more)).1.2.2.2))) || ((decide ((ofE l t.taxes.l (fee + more)).2 ≠ 0)) && (decide ((ofE l t.taxes.l (fee + more)).2 ≠ 2)))) || (decide ((ofE l t.taxes.l 0).2 ≠ 0))) || (decide ((ofE l t.taxes.l 0).1.2.2.1 ≠ 0))) || (decide ((ofE l t.taxes.l 0).1.2.2.2 ≠ ((ofE l t.taxes.l fee).1.1) + ((ofE l t.taxes.l fee).1.2.1)))) || (decide ((unusedE l).2 ≠ 0)))), (95, 0, .bool (((((((decide ((ofE l t.taxes.l (fee + more)).2 = 0)) && (decide ((ofE l t.taxes.l fee).1.2.2.2 < (ofE l t.taxes.l (fee + more)).1.2.2.2))) || ((decide ((ofE l t.taxes.l (fee + more)).2 ≠ 0)) && (decide ((ofE l t.taxes.l (fee + more)).2 ≠ 2)))) || (decide ((ofE l t.taxes.l 0).2 ≠ 0))) || (decide ((ofE l t.taxes.l 0).1.2.2.1 ≠ 0))) || (decide ((ofE l t.taxes.l 0).1.2.2.2 ≠ ((ofE l t.taxes.l fee).1.1) + ((ofE l t.taxes.l fee).1.2.1)))) || (decide ((unusedE l).2 ≠ 0)))), (100, 0, .bool ((((((((decide ((ofE l t.taxes.l (fee + more)).2 = 0)) && (decide ((ofE l t.taxes.l fee).1.2.2.2 < (ofE l t.taxes.l (fee + more)).1.2.2.2))) || ((decide ((ofE l t.taxes.l (fee + more)).2 ≠ 0)) && (decide ((ofE l t.taxes.l (fee + more)).2 ≠ 2)))) || (decide ((ofE l t.taxes.l 0).2 ≠ 0))) || (decide ((ofE l t.taxes.l 0).1.2.2.1 ≠ 0))) || (decide ((ofE l t.taxes.l 0).1.2.2.2 ≠ ((ofE l t.taxes.l fee).1.1) + ((ofE l t.taxes.l fee).1.2.1)))) || (decide ((unusedE l).2 ≠ 0))) || (decide ((unusedE l).1 ≠ (ofE l t.taxes.l fee).1.1)))), (17, 0, .int .i64 ((q_.1 : Nat) : Int)), (15, 0, .int .i64 q_.2.1), (16, 0, .bool q_.2.2)]) (fun q_ => [Item.cells b1 [.int .i64 t.num, .string t.loc, .string t.p1, .string t.p2, .string t.p3, .slice ao n cap, .int .i64 t.fare, .slice t.taxes.ao t.taxes.l.length t.taxes.cap, .int .i64 t.total, .int .i64 t.issued] 27, Item.cells b2 [.int .i64 ((ofE l t.taxes.l fee).1.1), .int .i64 ((ofE l t.taxes.l fee).1.2.1), .int .i64 ((ofE l t.taxes.l fee).1.2.2.1), .int .i64 ((ofE l t.taxes.l fee).1.2.2.2)] 34, Item.cells b3 [.int .i64 ((ofE l t.taxes.l (fee + more)).1.1), .int .i64 ((ofE l t.taxes.l (fee + more)).1.2.1), .int .i64 ((ofE l t.taxes.l (fee + more)).1.2.2.1), .int .i64 ((ofE l t.taxes.l (fee + more)).1.2.2.2)] 34, Item.cells b4 [.int .i64 ((ofE l t.taxes.l 0).1.1), .int .i64 ((ofE l t.taxes.l 0).1.2.1), .int .i64 ((ofE l t.taxes.l 0).1.2.2.1), .int .i64 ((ofE l t.taxes.l 0).1.2.2.2)] 34]) (fun q_ => q_.1 ≤ n ∧ (q_.2.2 = true → (∀ c ∈ l.take q_.1, c.2.2.1 = 1) ∧ q_.2.1 = sumV (vals (l.take q_.1))) ∧ ((∀ c ∈ l.take q_.1, c.2.2.1 = 1) → q_.2.2 = true)) (fun q_ => n - q_.1) 4 ((0, 0, true)) (⟨Nat.zero_le _, fun _ => ⟨by simp, rfl⟩, fun _ => rfl⟩) ⟨rfl, rfl, rfl, rfl, rfl, rfl, rfl, rfl, rfl, rfl, rfl, rfl, rfl, rfl, rfl, rfl, rfl, rfl, rfl, rfl, rfl, rfl, rfl, rfl, rfl, rfl, rfl, rfl, rfl, rfl, rfl, rfl, rfl, rfl, rfl, rfl, rfl, rfl, rfl, rfl, rfl, rfl, rfl, rfl, rfl, rfl, rfl, rfl, rfl, rfl, rfl, rfl, rfl, rfl, rfl, rfl, rfl, rfl, rfl, rfl, rfl, rfl, rfl, rfl, rfl, rfl, rfl, rfl, rfl, rfl, rfl, rfl, rfl, rfl, rfl, rfl, rfl, rfl, rfl, rfl, rfl, rfl, rfl, rfl, rfl, rfl, rfl, rfl, rfl, rfl, rfl, rfl, rfl, rfl, rfl, rfl, rfl, rfl, rfl, rfl, rfl, rfl, rfl, rfl, rfl, rfl, rfl, rfl, rfl, rfl, rfl, rfl, rfl, rfl, rfl, rfl, rfl, rfl, rfl, rfl, rfl, rfl, trivial⟩ rfl ?_
        rintro ⟨k, s, wh⟩ ⟨hk, hs⟩
        try dsimp only at *
        refine WC.seq ?_
        refine WC.seq ?_
        refine WC.region ?_
        refine SL.pure rfl rfl rfl (PureOp.move rfl) ?_
        refine SL.pure rfl rfl rfl (PureOp.fieldAddrT 5 Try.underlying27 rfl sz24 rfl rfl) ?_
        refine SL.pure rfl rfl rfl (PureOp.load (v := .slice ao n cap) Try.underlying24 rfl rfl (fun _ => (CellIs.cells 0 rfl rfl))) ?_
        refine SL.pure rfl rfl rfl (PureOp.len rfl Try.underlying24) ?_
        refine SL.pure rfl rfl rfl (PureOp.lss rfl rfl) ?_
        refine SL.nil_then ?_
        refine WC.cond rfl (fun h4 => ?_) (fun h4 => ?_)
        · try simp only [Bool.and_eq_true, Bool.or_eq_true, Bool.not_eq_true', Bool.not_eq_false', Bool.and_eq_false_iff, Bool.or_eq_false_iff, decide_eq_true_eq, decide_eq_false_iff_not, Int.not_lt, Int.not_le, ne_eq, Decidable.not_not] at h4
          refine WC.skip ?_
          refine QX.then_ ?_
          refine WC.seq ?_
          refine WC.block ?_
          refine WC.seq ?_
          refine WC.region ?_
          refine SL.pure rfl rfl rfl (PureOp.move rfl) ?_
          refine SL.pure rfl rfl rfl (PureOp.fieldAddrT 5 Try.underlying27 rfl sz24 rfl rfl) ?_
          refine SL.pure rfl rfl rfl (PureOp.load (v := .slice ao n cap) Try.underlying24 rfl rfl (fun _ => (CellIs.cells 0 rfl rfl))) ?_
          refine SL.pure rfl rfl rfl (PureOp.move rfl) ?_
          refine SL.pure rfl rfl rfl (PureOp.indexAddrN Try.underlying24 sz65 rfl rfl (AoOk.in_ hz) (fun _ => by first | omega | (have q3 := ofE_fits l t.taxes.l fee; omega))) ?_
          refine SL.pure rfl rfl rfl (PureOp.fieldAddr 10 Try.underlying65 rfl rfl sz3 rfl) ?_
          refine SL.pure rfl rfl rfl (PureOp.load (v := .int .i64 ((nth l k).2.2.2)) Try.underlying3 rfl rfl (fun _ => (CellIs.in_ hz k 10 (by first | omega | (have q3 := ofE_fits l t.taxes.l fee; omega)) (by omega)))) ?_
          refine SL.pure rfl rfl rfl (PureOp.addw rfl rfl) ?_
          refine SL.pure rfl rfl rfl (PureOp.assign rfl) ?_
          refine SL.nil_then ?_
          refine WC.region ?_
          refine SL.pure rfl rfl rfl (PureOp.move rfl) ?_
          refine SL.pure rfl rfl rfl (PureOp.move rfl) ?_
          refine SL.newg 117 true rfl ?_
          refine SL.gpure (c := 1) rfl rfl rfl rfl rfl rfl rfl (PureOp.fieldAddrT 5 Try.underlying27 rfl sz24 rfl rfl) ?_
          refine SL.gpure (c := 1) rfl rfl rfl rfl rfl rfl rfl (PureOp.load (v := .slice ao n cap) Try.underlying24 rfl rfl (fun _ => (CellIs.cells 0 rfl rfl))) ?_
          refine SL.gpure (c := 1) rfl rfl rfl rfl rfl rfl rfl (PureOp.move rfl) ?_
          refine SL.gpure (c := 1) rfl rfl rfl rfl rfl rfl rfl (PureOp.indexAddrN Try.underlying24 sz65 rfl rfl (AoOk.in_ hz) (by intro hg; simp [gval] at hg; first | omega | (have q3 := ofE_fits l t.taxes.l fee; omega))) ?_
          refine SL.gpure (c := 1) rfl rfl rfl rfl rfl rfl rfl (PureOp.fieldAddr 9 Try.underlying65 rfl rfl sz3 rfl) ?_
          refine SL.gpure (c := 1) rfl rfl rfl rfl rfl rfl rfl (PureOp.load (v := .int .i64 ((nth l k).2.2.1)) Try.underlying3 rfl rfl (by intro hg; simp [gval] at hg; exact (CellIs.in_ hz k 9 (by first | omega | (have q3 := ofE_fits l t.taxes.l fee; omega)) (by omega)))) ?_
          refine SL.gpure (c := 1) rfl rfl rfl rfl rfl rfl rfl (PureOp.eql rfl rfl) ?_
          refine SL.pure rfl rfl rfl (PureOp.and_ rfl rfl rfl rfl) ?_
          refine SL.pure rfl rfl rfl (PureOp.assign rfl) ?_
          refine SL.nil ?_
          refine QX.normal_in ?_
          refine QX.then_ ?_
          refine WC.region ?_
          refine SL.pure rfl rfl rfl (PureOp.move rfl) ?_
          refine SL.pure rfl rfl rfl (PureOp.addN (k := 1) rfl rfl (fun _ => by first | omega | (have q3 := ofE_fits l t.taxes.l fee; omega))) ?_
          refine SL.pure rfl rfl rfl (PureOp.assign rfl) ?_
          refine SL.nil ?_
          refine QX.round (σ := Nat × Int × Bool) (Ef := fun q_ => [(0, 0, .agg #[.int .i64 t.num, .string t.loc, .string t.p1, .string t.p2, .string t.p3, .slice ao n cap, .int .i64 t.fare, .slice t.taxes.ao t.taxes.l.length t.taxes.cap, .int .i64 t.total, .int .i64 t.issued]), (1, 0, .int .i64 fee), (2, 0, .int .u16 more), (3, 0, .pointer (some ⟨b1, 0, none⟩)), (6, 0, .bool false), (7, 0, .pointer (some ⟨b2, 0, none⟩)), (8, 0, .int .i64 ((ofE l t.taxes.l fee).2)), (9, 0, .pointer (some ⟨b3, 0, none⟩)), (10, 0, .int .i64 ((ofE l t.taxes.l (fee + more)).2)), (11, 0, .pointer (some ⟨b4, 0, none⟩)), (12, 0, .int .i64 ((ofE l t.taxes.l 0).2)), (13, 0, .int .i64 ((unusedE l).1)), (14, 0, .int .i64 ((unusedE l).2)), (19, 0, .agg #[.int .i64 t.num, .string t.loc, .string t.p1, .string t.p2, .string t.p3, .slice ao n cap, .int .i64 t.fare, .slice t.taxes.ao t.taxes.l.length t.taxes.cap, .int .i64 t.total, .int .i64 t.issued]), (20, 0, .bool ob), (22, 0, .tuple #[.agg #[.int .i64 ((ofE l t.taxes.l fee).1.1), .int .i64 ((ofE l t.taxes.l fee).1.2.1), .int .i64 ((ofE l t.taxes.l fee).1.2.2.1), .int .i64 ((ofE l t.taxes.l fee).1.2.2.2)], .int .i64 ((ofE l t.taxes.l fee).2)]), (23, 0, .agg #[.int .i64 t.num, .string t.loc, .string t.p1, .string t.p2, .string t.p3, .slice ao n cap, .int .i64 t.fare, .slice t.taxes.ao t.taxes.l.length t.taxes.cap, .int .i64 t.total, .int .i64 t.issued]), (24, 0, .int .i64 fee), (25, 0, .tuple #[.agg #[.int .i64 ((ofE l t.taxes.l fee).1.1), .int .i64 ((ofE l t.taxes.l fee).1.2.1), .int .i64 ((ofE l t.taxes.l fee).1.2.2.1), .int .i64 ((ofE l t.taxes.l fee).1.2.2.2)], .int .i64 ((ofE l t.taxes.l fee).2)]), (26, 0, .agg #[.int .i64 ((ofE l t.taxes.l fee).1.1), .int .i64 ((ofE l t.taxes.l fee).1.2.1), .int .i64 ((ofE l t.taxes.l fee).1.2.2.1), .int .i64 ((ofE l t.taxes.l fee).1.2.2.2)]), (27, 0, .int .i64 ((ofE l t.taxes.l fee).2)), (28, 0, .int .i64 ((ofE l t.taxes.l fee).2)), (29, 0, .bool (decide ((ofE l t.taxes.l fee).2 ≠ 0))), (36, 0, .tuple #[.agg #[.int .i64 ((ofE l t.taxes.l (fee + more)).1.1), .int .i64 ((ofE l t.taxes.l (fee + more)).1.2.1), .int .i64 ((ofE l t.taxes.l (fee + more)).1.2.2.1), .int .i64 ((ofE l t.taxes.l (fee + more)).1.2.2.2)], .int .i64 ((ofE l t.taxes.l (fee + more)).2)]), (37, 0, .agg #[.int .i64 t.num, .string t.loc, .string t.p1, .string t.p2, .string t.p3, .slice ao n cap, .int .i64 t.fare, .slice t.taxes.ao t.taxes.l.length t.taxes.cap, .int .i64 t.total, .int .i64 t.issued]), (38, 0, .int .i64 fee), (39, 0, .int .u16 more), (40, 0, .int .i64 more), (41, 0, .int .i64 (fee + more)), (42, 0, .tuple #[.agg #[.int .i64 ((ofE l t.taxes.l (fee + more)).1.1), .int .i64 ((ofE l t.taxes.l (fee + more)).1.2.1), .int .i64 ((ofE l t.taxes.l (fee + more)).1.2.2.1), .int .i64 ((ofE l t.taxes.l (fee + more)).1.2.2.2)], .int .i64 ((ofE l t.taxes.l (fee + more)).2)]), (43, 0, .agg #[.int .i64 ((ofE l t.taxes.l (fee + more)).1.1), .int .i64 ((ofE l t.taxes.l (fee + more)).1.2.1), .int .i64 ((ofE l t.taxes.l (fee + more)).1.2.2.1), .int .i64 ((ofE l t.taxes.l (fee + more)).1.2.2.2)]), (44, 0, .int .i64 ((ofE l t.taxes.l (fee + more)).2)), (45, 0, .tuple #[.agg #[.int .i64 ((ofE l t.taxes.l 0).1.1), .int .i64 ((ofE l t.taxes.l 0).1.2.1), .int .i64 ((ofE l t.taxes.l 0).1.2.2.1), .int .i64 ((ofE l t.taxes.l 0).1.2.2.2)], .int .i64 ((ofE l t.taxes.l 0).2)]), (46, 0, .agg #[.int .i64 t.num, .string t.loc, .string t.p1, .string t.p2, .string t.p3, .slice ao n cap, .int .i64 t.fare, .slice t.taxes.ao t.taxes.l.length t.taxes.cap, .int .i64 t.total, .int .i64 t.issued]), (47, 0, .tuple #[.agg #[.int .i64 ((ofE l t.taxes.l 0).1.1), .int .i64 ((ofE l t.taxes.l 0).1.2.1), .int .i64 ((ofE l t.taxes.l 0).1.2.2.1), .int .i64 ((ofE l t.taxes.l 0).1.2.2.2)], .int .i64 ((ofE l t.taxes.l 0).2)]), (48, 0, .agg #[.int .i64 ((ofE l t.taxes.l 0).1.1), .int .i64 ((ofE l t.taxes.l 0).1.2.1), .int .i64 ((ofE l t.taxes.l 0).1.2.2.1), .int .i64 ((ofE l t.taxes.l 0).1.2.2.2)]), (49, 0, .int .i64 ((ofE l t.taxes.l 0).2)), (50, 0, .tuple #[.int .i64 ((unusedE l).1), .int .i64 ((unusedE l).2)]), (51, 0, .agg #[.int .i64 t.num, .string t.loc, .string t.p1, .string t.p2, .string t.p3, .slice ao n cap, .int .i64 t.fare, .slice t.taxes.ao t.taxes.l.length t.taxes.cap, .int .i64 t.total, .int .i64 t.issued]), (52, 0, .tuple #[.int .i64 ((unusedE l).1), .int .i64 ((unusedE l).2)]), (53, 0, .int .i64 ((unusedE l).1)), (54, 0, .int .i64 ((unusedE l).2)), (55, 0, .int .i64 ((ofE l t.taxes.l (fee + more)).2)), (56, 0, .bool (decide ((ofE l t.taxes.l (fee + more)).2 = 0))), (57, 0, .bool (decide ((ofE l t.taxes.l (fee + more)).2 = 0))), (63, 0, .bool ((decide ((ofE l t.taxes.l (fee + more)).2 = 0)) && (decide ((ofE l t.taxes.l fee).1.2.2.2 < (ofE l t.taxes.l (fee + more)).1.2.2.2)))), (64, 0, .bool ((decide ((ofE l t.taxes.l (fee + more)).2 = 0)) && (decide ((ofE l t.taxes.l fee).1.2.2.2 < (ofE l t.taxes.l (fee + more)).1.2.2.2)))), (71, 0, .bool (((decide ((ofE l t.taxes.l (fee + more)).2 = 0)) && (decide ((ofE l t.taxes.l fee).1.2.2.2 < (ofE l t.taxes.l (fee + more)).1.2.2.2))) || ((decide ((ofE l t.taxes.l (fee + more)).2 ≠ 0)) && (decide ((ofE l t.taxes.l (fee + more)).2 ≠ 2))))), (72, 0, .bool (((decide ((ofE l t.taxes.l (fee + more)).2 = 0)) && (decide ((ofE l t.taxes.l fee).1.2.2.2 < (ofE l t.taxes.l (fee + more)).1.2.2.2))) || ((decide ((ofE l t.taxes.l (fee + more)).2 ≠ 0)) && (decide ((ofE l t.taxes.l (fee + more)).2 ≠ 2))))), (75, 0, .bool ((((decide ((ofE l t.taxes.l (fee + more)).2 = 0)) && (decide ((ofE l t.taxes.l fee).1.2.2.2 < (ofE l t.taxes.l (fee + more)).1.2.2.2))) || ((decide ((ofE l t.taxes.l (fee + more)).2 ≠ 0)) && (decide ((ofE l t.taxes.l (fee + more)).2 ≠ 2)))) || (decide ((ofE l t.taxes.l 0).2 ≠ 0)))), (76, 0, .bool ((((decide ((ofE l t.taxes.l (fee + more)).2 = 0)) && (decide ((ofE l t.taxes.l fee).1.2.2.2 < (ofE l t.taxes.l (fee + more)).1.2.2.2))) || ((decide ((ofE l t.taxes.l (fee + more)).2 ≠ 0)) && (decide ((ofE l t.taxes.l (fee + more)).2 ≠ 2)))) || (decide ((ofE l t.taxes.l 0).2 ≠ 0)))), (80, 0, .bool (((((decide ((ofE l t.taxes.l (fee + more)).2 = 0)) && (decide ((ofE l t.taxes.l fee).1.2.2.2 < (ofE l t.taxes.l (fee + more)).1.2.2.2))) || ((decide ((ofE l t.taxes.l (fee + more)).2 ≠ 0)) && (decide ((ofE l t.taxes.l (fee + more)).2 ≠ 2)))) || (decide ((ofE l t.taxes.l 0).2 ≠ 0))) || (decide ((ofE l t.taxes.l 0).1.2.2.1 ≠ 0)))), (81, 0, .bool (((((decide ((ofE l t.taxes.l (fee + more)).2 = 0)) && (decide ((ofE l t.taxes.l fee).1.2.2.2 < (ofE l t.taxes.l (fee + more)).1.2.2.2))) || ((decide ((ofE l t.taxes.l (fee + more)).2 ≠ 0)) && (decide ((ofE l t.taxes.l (fee + more)).2 ≠ 2)))) || (decide ((ofE l t.taxes.l 0).2 ≠ 0))) || (decide ((ofE l t.taxes.l 0).1.2.2.1 ≠ 0)))), (90, 0, .bool ((((((decide ((ofE l t.taxes.l (fee + more)).2 = 0)) && (decide ((ofE l t.taxes.l fee).1.2.2.2 < (ofE l t.taxes.l (fee + more)).1.2.2.2))) || ((decide ((ofE l t.taxes.l (fee + more)).2 ≠ 0)) && (decide ((ofE l t.taxes.l (fee + more)).2 ≠ 2)))) || (decide ((ofE l t.taxes.l 0).2 ≠ 0))) || (decide ((ofE l t.taxes.l 0).1.2.2.1 ≠ 0))) || (decide ((ofE l t.taxes.l 0).1.2.2.2 ≠ ((ofE l t.taxes.l fee).1.1) + ((ofE l t.taxes.l fee).1.2.1))))), (91, 0, .bool ((((((decide ((ofE l t.taxes.l (fee + more)).2 = 0)) && (decide ((ofE l t.taxes.l fee).1.2.2.2 < (ofE l t.taxes.l (fee + more)).1.2.2.2))) || ((decide ((ofE l t.taxes.l (fee + more)).2 ≠ 0)) && (decide ((ofE l t.taxes.l (fee + more)).2 ≠ 2)))) || (decide ((ofE l t.taxes.l 0).2 ≠ 0))) || (decide ((ofE l t.taxes.l 0).1.2.2.1 ≠ 0))) || (decide ((ofE l t.taxes.l 0).1.2.2.2 ≠ ((ofE l t.taxes.l fee).1.1) + ((ofE l t.taxes.l fee).1.2.1))))), (94, 0, .bool (((((((decide ((ofE l t.taxes.l (fee + more)).2 = 0)) && (decide ((ofE l t.taxes.l fee).1.2.2.2 < (ofE l t.taxes.l (fee + more)).1.2.2.2))) || ((decide ((ofE l t.taxes.l (fee + more)).2 ≠ 0)) && (decide ((ofE l t.taxes.l (fee + more)).2 ≠ 2)))) || (decide ((ofE l t.taxes.l 0).2 ≠ 0))) || (decide ((ofE l t.taxes.l 0).1.2.2.1 ≠ 0))) || (decide ((ofE l t.taxes.l 0).1.2.2.2 ≠ ((ofE l t.taxes.l fee).1.1) + ((ofE l t.taxes.l fee).1.2.1)))) || (decide ((unusedE l).2 ≠ 0)))), (95, 0, .bool (((((((decide ((ofE l t.taxes.l (fee + more)).2 = 0)) && (decide ((ofE l t.taxes.l fee).1.2.2.2 < (ofE l t.taxes.l (fee + more)).1.2.2.2))) || ((decide ((ofE l t.taxes.l (fee + more)).2 ≠ 0)) && (decide ((ofE l t.taxes.l (fee + more)).2 ≠ 2)))) || (decide ((ofE l t.taxes.l 0).2 ≠ 0))) || (decide ((ofE l t.taxes.l 0).1.2.2.1 ≠ 0))) || (decide ((ofE l t.taxes.l 0).1.2.2.2 ≠ ((ofE l t.taxes.l fee).1.1) + ((ofE l t.taxes.l fee).1.2.1)))) || (decide ((unusedE l).2 ≠ 0)))), (100, 0, .bool ((((((((decide ((ofE l t.taxes.l (fee + more)).2 = 0)) && (decide ((ofE l t.taxes.l fee).1.2.2.2 < (ofE l t.taxes.l (fee + more)).1.2.2.2))) || ((decide ((ofE l t.taxes.l (fee + more)).2 ≠ 0)) && (decide ((ofE l t.taxes.l (fee + more)).2 ≠ 2)))) || (decide ((ofE l t.taxes.l 0).2 ≠ 0))) || (decide ((ofE l t.taxes.l 0).1.2.2.1 ≠ 0))) || (decide ((ofE l t.taxes.l 0).1.2.2.2 ≠ ((ofE l t.taxes.l fee).1.1) + ((ofE l t.taxes.l fee).1.2.1)))) || (decide ((unusedE l).2 ≠ 0))) || (decide ((unusedE l).1 ≠ (ofE l t.taxes.l fee).1.1)))), (17, 0, .int .i64 ((q_.1 : Nat) : Int)), (15, 0, .int .i64 q_.2.1), (16, 0, .bool q_.2.2)]) (Hf := fun q_ => [Item.cells b1 [.int .i64 t.num, .string t.loc, .string t.p1, .string t.p2, .string t.p3, .slice ao n cap, .int .i64 t.fare, .slice t.taxes.ao t.taxes.l.length t.taxes.cap, .int .i64 t.total, .int .i64 t.issued] 27, Item.cells b2 [.int .i64 ((ofE l t.taxes.l fee).1.1), .int .i64 ((ofE l t.taxes.l fee).1.2.1), .int .i64 ((ofE l t.taxes.l fee).1.2.2.1), .int .i64 ((ofE l t.taxes.l fee).1.2.2.2)] 34, Item.cells b3 [.int .i64 ((ofE l t.taxes.l (fee + more)).1.1), .int .i64 ((ofE l t.taxes.l (fee + more)).1.2.1), .int .i64 ((ofE l t.taxes.l (fee + more)).1.2.2.1), .int .i64 ((ofE l t.taxes.l (fee + more)).1.2.2.2)] 34, Item.cells b4 [.int .i64 ((ofE l t.taxes.l 0).1.1), .int .i64 ((ofE l t.taxes.l 0).1.2.1), .int .i64 ((ofE l t.taxes.l 0).1.2.2.1), .int .i64 ((ofE l t.taxes.l 0).1.2.2.2)] 34]) (I := fun q_ => q_.1 ≤ n ∧ (q_.2.2 = true → (∀ c ∈ l.take q_.1, c.2.2.1 = 1) ∧ q_.2.1 = sumV (vals (l.take q_.1))) ∧ ((∀ c ∈ l.take q_.1, c.2.2.1 = 1) → q_.2.2 = true)) (μ := fun q_ => n - q_.1) (s := (k, s, wh)) 4 ((k + 1, wrap64 (s + (nth l k).2.2.2), (wh && decide ((nth l k).2.2.1 = 1)))) ⟨⟨(by first | omega | (dsimp only; omega)), sums_step1 (by omega) hO.1 hfit hO.2.2.1 hs⟩, by first | omega | (dsimp only; omega)⟩ ⟨rfl, rfl, rfl, rfl, rfl, rfl, rfl, rfl, rfl, rfl, rfl, rfl, rfl, rfl, rfl, rfl, rfl, rfl, rfl, rfl, rfl, rfl, rfl, rfl, rfl, rfl, rfl, rfl, rfl, rfl, rfl, rfl, rfl, rfl, rfl, rfl, rfl, rfl, rfl, rfl, rfl, rfl, rfl, rfl, rfl, rfl, rfl, rfl, rfl, rfl, rfl, rfl, rfl, rfl, rfl, rfl, rfl, rfl, rfl, rfl, rfl, rfl, rfl, rfl, rfl, rfl, rfl, rfl, rfl, rfl, rfl, rfl, rfl, rfl, rfl, rfl, rfl, rfl, rfl, rfl, rfl, rfl, rfl, rfl, rfl, rfl, rfl, rfl, rfl, rfl, rfl, rfl, rfl, rfl, rfl, rfl, rfl, rfl, rfl, rfl, rfl, rfl, rfl, rfl, rfl, rfl, rfl, rfl, rfl, rfl, rfl, rfl, rfl, rfl, rfl, rfl, rfl, rfl, rfl, rfl, rfl, rfl, trivial⟩ rfl
        · try simp only [Bool.and_eq_true, Bool.or_eq_true, Bool.not_eq_true', Bool.not_eq_false', Bool.and_eq_false_iff, Bool.or_eq_false_iff, decide_eq_true_eq, decide_eq_false_iff_not, Int.not_lt, Int.not_le, ne_eq, Decidable.not_not] at h4
          refine WC.exit ?_
          refine QX.exit_then ?_
          refine QX.exit_then ?_
          refine QX.exit_hit ?_
          refine QX.then_ ?_
          refine WC.seq ?_
          refine WC.seq ?_
          refine WC.region ?_
          refine SL.pure rfl rfl rfl (PureOp.assign rfl) ?_
          refine SL.nil_then ?_
          refine WC.block ?_
          refine WC.loop (σ := Nat × Int) (fun q_ => [(0, 0, .agg #[.int .i64 t.num, .string t.loc, .string t.p1, .string t.p2, .string t.p3, .slice ao n cap, .int .i64 t.fare, .slice t.taxes.ao t.taxes.l.length t.taxes.cap, .int .i64 t.total, .int .i64 t.issued]), (1, 0, .int .i64 fee), (2, 0, .int .u16 more), (3, 0, .pointer (some ⟨b1, 0, none⟩)), (6, 0, .bool false), (7, 0, .pointer (some ⟨b2, 0, none⟩)), (8, 0, .int .i64 ((ofE l t.taxes.l fee).2)), (9, 0, .pointer (some ⟨b3, 0, none⟩)), (10, 0, .int .i64 ((ofE l t.taxes.l (fee + more)).2)), (11, 0, .pointer (some ⟨b4, 0, none⟩)), (12, 0, .int .i64 ((ofE l t.taxes.l 0).2)), (13, 0, .int .i64 ((unusedE l).1)), (14, 0, .int .i64 ((unusedE l).2)), (16, 0, .bool wh), (17, 0, .int .i64 ((k : Nat) : Int)), (19, 0, .agg #[.int .i64 t.num, .string t.loc, .string t.p1, .string t.p2, .string t.p3, .slice ao n cap, .int .i64 t.fare, .slice t.taxes.ao t.taxes.l.length t.taxes.cap, .int .i64 t.total, .int .i64 t.issued]), (20, 0, .bool ob), (22, 0, .tuple #[.agg #[.int .i64 ((ofE l t.taxes.l fee).1.1), .int .i64 ((ofE l t.taxes.l fee).1.2.1), .int .i64 ((ofE l t.taxes.l fee).1.2.2.1), .int .i64 ((ofE l t.taxes.l fee).1.2.2.2)], .int .i64 ((ofE l t.taxes.l fee).2)]), (23, 0, .agg #[.int .i64 t.num, .string t.loc, .string t.p1, .string t.p2, .string t.p3, .slice ao n cap, .int .i64 t.fare, .slice t.taxes.ao t.taxes.l.length t.taxes.cap, .int .i64 t.total, .int .i64 t.issued]), (24, 0, .int .i64 fee), (25, 0, .tuple #[.agg #[.int .i64 ((ofE l t.taxes.l fee).1.1), .int .i64 ((ofE l t.taxes.l fee).1.2.1), .int .i64 ((ofE l t.taxes.l fee).1.2.2.1), .int .i64 ((ofE l t.taxes.l fee).1.2.2.2)], .int .i64 ((ofE l t.taxes.l fee).2)]), (26, 0, .agg #[.int .i64 ((ofE l t.taxes.l fee).1.1), .int .i64 ((ofE l t.taxes.l fee).1.2.1), .int .i64 ((ofE l t.taxes.l fee).1.2.2.1), .int .i64 ((ofE l t.taxes.l fee).1.2.2.2)]), (27, 0, .int .i64 ((ofE l t.taxes.l fee).2)), (28, 0, .int .i64 ((ofE l t.taxes.l fee).2)), (29, 0, .bool (decide ((ofE l t.taxes.l fee).2 ≠ 0))), (36, 0, .tuple #[.agg #[.int .i64 ((ofE l t.taxes.l (fee + more)).1.1), .int .i64 ((ofE l t.taxes.l (fee + more)).1.2.1), .int .i64 ((ofE l t.taxes.l (fee + more)).1.2.2.1), .int .i64 ((ofE l t.taxes.l (fee + more)).1.2.2.2)], .int .i64 ((ofE l t.taxes.l (fee + more)).2)]), (37, 0, .agg #[.int .i64 t.num, .string t.loc, .string t.p1, .string t.p2, .string t.p3, .slice ao n cap, .int .i64 t.fare, .slice t.taxes.ao t.taxes.l.length t.taxes.cap, .int .i64 t.total, .int .i64 t.issued]), (38, 0, .int .i64 fee), (39, 0, .int .u16 more), (40, 0, .int .i64 more), (41, 0, .int .i64 (fee + more)), (42, 0, .tuple #[.agg #[.int .i64 ((ofE l t.taxes.l (fee + more)).1.1), .int .i64 ((ofE l t.taxes.l (fee + more)).1.2.1), .int .i64 ((ofE l t.taxes.l (fee + more)).1.2.2.1), .int .i64 ((ofE l t.taxes.l (fee + more)).1.2.2.2)], .int .i64 ((ofE l t.taxes.l (fee + more)).2)]), (43, 0, .agg #[.int .i64 ((ofE l t.taxes.l (fee + more)).1.1), .int .i64 ((ofE l t.taxes.l (fee + more)).1.2.1), .int .i64 ((ofE l t.taxes.l (fee + more)).1.2.2.1), .int .i64 ((ofE l t.taxes.l (fee + more)).1.2.2.2)]), (44, 0, .int .i64 ((ofE l t.taxes.l (fee + more)).2)), (45, 0, .tuple #[.agg #[.int .i64 ((ofE l t.taxes.l 0).1.1), .int .i64 ((ofE l t.taxes.l 0).1.2.1), .int .i64 ((ofE l t.taxes.l 0).1.2.2.1), .int .i64 ((ofE l t.taxes.l 0).1.2.2.2)], .int .i64 ((ofE l t.taxes.l 0).2)]), (46, 0, .agg #[.int .i64 t.num, .string t.loc, .string t.p1, .string t.p2, .string t.p3, .slice ao n cap, .int .i64 t.fare, .slice t.taxes.ao t.taxes.l.length t.taxes.cap, .int .i64 t.total, .int .i64 t.issued]), (47, 0, .tuple #[.agg #[.int .i64 ((ofE l t.taxes.l 0).1.1), .int .i64 ((ofE l t.taxes.l 0).1.2.1), .int .i64 ((ofE l t.taxes.l 0).1.2.2.1), .int .i64 ((ofE l t.taxes.l 0).1.2.2.2)], .int .i64 ((ofE l t.taxes.l 0).2)]), (48, 0, .agg #[.int .i64 ((ofE l t.taxes.l 0).1.1), .int .i64 ((ofE l t.taxes.l 0).1.2.1), .int .i64 ((ofE l t.taxes.l 0).1.2.2.1), .int .i64 ((ofE l t.taxes.l 0).1.2.2.2)]), (49, 0, .int .i64 ((ofE l t.taxes.l 0).2)), (50, 0, .tuple #[.int .i64 ((unusedE l).1), .int .i64 ((unusedE l).2)]), (51, 0, .agg #[.int .i64 t.num, .string t.loc, .string t.p1, .string t.p2, .string t.p3, .slice ao n cap, .int .i64 t.fare, .slice t.taxes.ao t.taxes.l.length t.taxes.cap, .int .i64 t.total, .int .i64 t.issued]), (52, 0, .tuple #[.int .i64 ((unusedE l).1), .int .i64 ((unusedE l).2)]), (53, 0, .int .i64 ((unusedE l).1)), (54, 0, .int .i64 ((unusedE l).2)), (55, 0, .int .i64 ((ofE l t.taxes.l (fee + more)).2)), (56, 0, .bool (decide ((ofE l t.taxes.l (fee + more)).2 = 0))), (57, 0, .bool (decide ((ofE l t.taxes.l (fee + more)).2 = 0))), (63, 0, .bool ((decide ((ofE l t.taxes.l (fee + more)).2 = 0)) && (decide ((ofE l t.taxes.l fee).1.2.2.2 < (ofE l t.taxes.l (fee + more)).1.2.2.2)))), (64, 0, .bool ((decide ((ofE l t.taxes.l (fee + more)).2 = 0)) && (decide ((ofE l t.taxes.l fee).1.2.2.2 < (ofE l t.taxes.l (fee + more)).1.2.2.2)))), (71, 0, .bool (((decide ((ofE l t.taxes.l (fee + more)).2 = 0)) && (decide ((ofE l t.taxes.l fee).1.2.2.2 < (ofE l t.taxes.l (fee + more)).1.2.2.2))) || ((decide ((ofE l t.taxes.l (fee + more)).2 ≠ 0)) && (decide ((ofE l t.taxes.l (fee + more)).2 ≠ 2))))), (72, 0, .bool (((decide ((ofE l t.taxes.l (fee + more)).2 = 0)) && (decide ((ofE l t.taxes.l fee).1.2.2.2 < (ofE l t.taxes.l (fee + more)).1.2.2.2))) || ((decide ((ofE l t.taxes.l (fee + more)).2 ≠ 0)) && (decide ((ofE l t.taxes.l (fee + more)).2 ≠ 2))))), (75, 0, .bool ((((decide ((ofE l t.taxes.l (fee + more)).2 = 0)) && (decide ((ofE l t.taxes.l fee).1.2.2.2 < (ofE l t.taxes.l (fee + more)).1.2.2.2))) || ((decide ((ofE l t.taxes.l (fee + more)).2 ≠ 0)) && (decide ((ofE l t.taxes.l (fee + more)).2 ≠ 2)))) || (decide ((ofE l t.taxes.l 0).2 ≠ 0)))), (76, 0, .bool ((((decide ((ofE l t.taxes.l (fee + more)).2 = 0)) && (decide ((ofE l t.taxes.l fee).1.2.2.2 < (ofE l t.taxes.l (fee + more)).1.2.2.2))) || ((decide ((ofE l t.taxes.l (fee + more)).2 ≠ 0)) && (decide ((ofE l t.taxes.l (fee + more)).2 ≠ 2)))) || (decide ((ofE l t.taxes.l 0).2 ≠ 0)))), (80, 0, .bool (((((decide ((ofE l t.taxes.l (fee + more)).2 = 0)) && (decide ((ofE l t.taxes.l fee).1.2.2.2 < (ofE l t.taxes.l (fee + more)).1.2.2.2))) || ((decide ((ofE l t.taxes.l (fee + more)).2 ≠ 0)) && (decide ((ofE l t.taxes.l (fee + more)).2 ≠ 2)))) || (decide ((ofE l t.taxes.l 0).2 ≠ 0))) || (decide ((ofE l t.taxes.l 0).1.2.2.1 ≠ 0)))), (81, 0, .bool (((((decide ((ofE l t.taxes.l (fee + more)).2 = 0)) && (decide ((ofE l t.taxes.l fee).1.2.2.2 < (ofE l t.taxes.l (fee + more)).1.2.2.2))) || ((decide ((ofE l t.taxes.l (fee + more)).2 ≠ 0)) && (decide ((ofE l t.taxes.l (fee + more)).2 ≠ 2)))) || (decide ((ofE l t.taxes.l 0).2 ≠ 0))) || (decide ((ofE l t.taxes.l 0).1.2.2.1 ≠ 0)))), (90, 0, .bool ((((((decide ((ofE l t.taxes.l (fee + more)).2 = 0)) && (decide ((ofE l t.taxes.l fee).1.2.2.2 < (ofE l t.taxes.l (fee + more)).1.2.2.2))) || ((decide ((ofE l t.taxes.l (fee + more)).2 ≠ 0)) && (decide ((ofE l t.taxes.l (fee + more)).2 ≠ 2)))) || (decide ((ofE l t.taxes.l 0).2 ≠ 0))) || (decide ((ofE l t.taxes.l 0).1.2.2.1 ≠ 0))) || (decide ((ofE l t.taxes.l 0).1.2.2.2 ≠ ((ofE l t.taxes.l fee).1.1) + ((ofE l t.taxes.l fee).1.2.1))))), (91, 0, .bool ((((((decide ((ofE l t.taxes.l (fee + more)).2 = 0)) && (decide ((ofE l t.taxes.l fee).1.2.2.2 < (ofE l t.taxes.l (fee + more)).1.2.2.2))) || ((decide ((ofE l t.taxes.l (fee + more)).2 ≠ 0)) && (decide ((ofE l t.taxes.l (fee + more)).2 ≠ 2)))) || (decide ((ofE l t.taxes.l 0).2 ≠ 0))) || (decide ((ofE l t.taxes.l 0).1.2.2.1 ≠ 0))) || (decide ((ofE l t.taxes.l 0).1.2.2.2 ≠ ((ofE l t.taxes.l fee).1.1) + ((ofE l t.taxes.l fee).1.2.1))))), (94, 0, .bool (((((((decide ((ofE l t.taxes.l (fee + more)).2 = 0)) && (decide ((ofE l t.taxes.l fee).1.2.2.2 < (ofE l t.taxes.l (fee + more)).1.2.2.2))) || ((decide ((ofE l t.taxes.l (fee + more)).2 ≠ 0)) && (decide ((ofE l t.taxes.l (fee + more)).2 ≠ 2)))) || (decide ((ofE l t.taxes.l 0).2 ≠ 0))) || (decide ((ofE l t.taxes.l 0).1.2.2.1 ≠ 0))) || (decide ((ofE l t.taxes.l 0).1.2.2.2 ≠ ((ofE l t.taxes.l fee).1.1) + ((ofE l t.taxes.l fee).1.2.1)))) || (decide ((unusedE l).2 ≠ 0)))), (95, 0, .bool (((((((decide ((ofE l t.taxes.l (fee + more)).2 = 0)) && (decide ((ofE l t.taxes.l fee).1.2.2.2 < (ofE l t.taxes.l (fee + more)).1.2.2.2))) || ((decide ((ofE l t.taxes.l (fee + more)).2 ≠ 0)) && (decide ((ofE l t.taxes.l (fee + more)).2 ≠ 2)))) || (decide ((ofE l t.taxes.l 0).2 ≠ 0))) || (decide ((ofE l t.taxes.l 0).1.2.2.1 ≠ 0))) || (decide ((ofE l t.taxes.l 0).1.2.2.2 ≠ ((ofE l t.taxes.l fee).1.1) + ((ofE l t.taxes.l fee).1.2.1)))) || (decide ((unusedE l).2 ≠ 0)))), (100, 0, .bool ((((((((decide ((ofE l t.taxes.l (fee + more)).2 = 0)) && (decide ((ofE l t.taxes.l fee).1.2.2.2 < (ofE l t.taxes.l (fee + more)).1.2.2.2))) || ((decide ((ofE l t.taxes.l (fee + more)).2 ≠ 0)) && (decide ((ofE l t.taxes.l (fee + more)).2 ≠ 2)))) || (decide ((ofE l t.taxes.l 0).2 ≠ 0))) || (decide ((ofE l t.taxes.l 0).1.2.2.1 ≠ 0))) || (decide ((ofE l t.taxes.l 0).1.2.2.2 ≠ ((ofE l t.taxes.l fee).1.1) + ((ofE l t.taxes.l fee).1.2.1)))) || (decide ((unusedE l).2 ≠ 0))) || (decide ((unusedE l).1 ≠ (ofE l t.taxes.l fee).1.1)))), (101, 0, .int .i64 ((k : Nat) : Int)), (102, 0, .pointer (some ⟨b1, 5, none⟩)), (103, 0, .slice ao n cap), (104, 0, .int .i64 ((n : Nat) : Int)), (105, 0, .bool (decide (((k : Nat) : Int) < ((n : Nat) : Int)))), (18, 0, .int .i64 ((q_.1 : Nat) : Int)), (15, 0, .int .i64 q_.2)]) (fun q_ => [Item.cells b1 [.int .i64 t.num, .string t.loc, .string t.p1, .string t.p2, .string t.p3, .slice ao n cap, .int .i64 t.fare, .slice t.taxes.ao t.taxes.l.length t.taxes.cap, .int .i64 t.total, .int .i64 t.issued] 27, Item.cells b2 [.int .i64 ((ofE l t.taxes.l fee).1.1), .int .i64 ((ofE l t.taxes.l fee).1.2.1), .int .i64 ((ofE l t.taxes.l fee).1.2.2.1), .int .i64 ((ofE l t.taxes.l fee).1.2.2.2)] 34, Item.cells b3 [.int .i64 ((ofE l t.taxes.l (fee + more)).1.1), .int .i64 ((ofE l t.taxes.l (fee + more)).1.2.1), .int .i64 ((ofE l t.taxes.l (fee + more)).1.2.2.1), .int .i64 ((ofE l t.taxes.l (fee + more)).1.2.2.2)] 34, Item.cells b4 [.int .i64 ((ofE l t.taxes.l 0).1.1), .int .i64 ((ofE l t.taxes.l 0).1.2.1), .int .i64 ((ofE l t.taxes.l 0).1.2.2.1), .int .i64 ((ofE l t.taxes.l 0).1.2.2.2)] 34]) (fun q_ => q_.1 ≤ t.taxes.l.length ∧ (wh = true → q_.2 = sumV (vals l) + sumV (amts (t.taxes.l.take q_.1)))) (fun q_ => t.taxes.l.length - q_.1) 4 ((0, s)) (⟨Nat.zero_le _, fun q => by have q1 := (hs.1 q).2; rw [List.take_of_length_le (by omega)] at q1; rw [q1]; simp [amts, sumV]⟩) ⟨rfl, rfl, rfl, rfl, rfl, rfl, rfl, rfl, rfl, rfl, rfl, rfl, rfl, rfl, rfl, rfl, rfl, rfl, rfl, rfl, rfl, rfl, rfl, rfl, rfl, rfl, rfl, rfl, rfl, rfl, rfl, rfl, rfl, rfl, rfl, rfl, rfl, rfl, rfl, rfl, rfl, rfl, rfl, rfl, rfl, rfl, rfl, rfl, rfl, rfl, rfl, rfl, rfl, rfl, rfl, rfl, rfl, rfl, rfl, rfl, rfl, rfl, rfl, rfl, rfl, rfl, rfl, rfl, rfl, rfl, rfl, rfl, rfl, rfl, rfl, rfl, rfl, rfl, rfl, rfl, rfl, rfl, rfl, rfl, rfl, rfl, rfl, rfl, rfl, rfl, rfl, rfl, rfl, rfl, rfl, rfl, rfl, rfl, rfl, rfl, rfl, rfl, rfl, rfl, rfl, rfl, rfl, rfl, rfl, rfl, rfl, rfl, rfl, rfl, rfl, rfl, rfl, rfl, rfl, rfl, rfl, rfl, rfl, rfl, rfl, rfl, rfl, rfl, rfl, rfl, rfl, rfl, rfl, rfl, trivial⟩ rfl ?_
          rintro ⟨j, s2⟩ ⟨hj, hs2⟩
          try dsimp only at *
          refine WC.seq ?_
          refine WC.seq ?_
          refine WC.region ?_
          refine SL.pure rfl rfl rfl (PureOp.move rfl) ?_
          refine SL.pure rfl rfl rfl (PureOp.fieldAddrT 7 Try.underlying27 rfl sz25 rfl rfl) ?_
          refine SL.pure rfl rfl rfl (PureOp.load (v := .slice t.taxes.ao t.taxes.l.length t.taxes.cap) Try.underlying25 rfl rfl (fun _ => (CellIs.cells 0 rfl rfl))) ?_
          refine SL.pure rfl rfl rfl (PureOp.len rfl Try.underlying25) ?_
          refine SL.pure rfl rfl rfl (PureOp.lss rfl rfl) ?_
          refine SL.nil_then ?_
          refine WC.cond rfl (fun h5 => ?_) (fun h5 => ?_)
          · try simp only [Bool.and_eq_true, Bool.or_eq_true, Bool.not_eq_true', Bool.not_eq_false', Bool.and_eq_false_iff, Bool.or_eq_false_iff, decide_eq_true_eq, decide_eq_false_iff_not, Int.not_lt, Int.not_le, ne_eq, Decidable.not_not] at h5
            refine WC.skip ?_
            refine QX.then_ ?_
            refine WC.seq ?_
            refine WC.block ?_
            refine WC.region ?_
            refine SL.pure rfl rfl rfl (PureOp.move rfl) ?_
            refine SL.pure rfl rfl rfl (PureOp.fieldAddrT 7 Try.underlying27 rfl sz25 rfl rfl) ?_
            refine SL.pure rfl rfl rfl (PureOp.load (v := .slice t.taxes.ao t.taxes.l.length t.taxes.cap) Try.underlying25 rfl rfl (fun _ => (CellIs.cells 0 rfl rfl))) ?_
            refine SL.pure rfl rfl rfl (PureOp.move rfl) ?_
            refine SL.pure rfl rfl rfl (PureOp.indexAddrN Try.underlying25 sz67 rfl rfl (AoOk.in_ hx) (fun _ => by first | omega | (have q3 := ofE_fits l t.taxes.l fee; omega))) ?_
            refine SL.pure rfl rfl rfl (PureOp.fieldAddr 1 Try.underlying67 rfl rfl sz3 rfl) ?_
            refine SL.pure rfl rfl rfl (PureOp.load (v := .int .i64 ((nth t.taxes.l j).2)) Try.underlying3 rfl rfl (fun _ => (CellIs.in_ hx j 1 (by first | omega | (have q3 := ofE_fits l t.taxes.l fee; omega)) (by omega)))) ?_
            refine SL.pure rfl rfl rfl (PureOp.addw rfl rfl) ?_
            refine SL.pure rfl rfl rfl (PureOp.assign rfl) ?_
            refine SL.nil ?_
            refine QX.normal_in ?_
            refine QX.then_ ?_
            refine WC.region ?_
            refine SL.pure rfl rfl rfl (PureOp.move rfl) ?_
            refine SL.pure rfl rfl rfl (PureOp.addN (k := 1) rfl rfl (fun _ => by first | omega | (have q3 := ofE_fits l t.taxes.l fee; omega))) ?_
            refine SL.pure rfl rfl rfl (PureOp.assign rfl) ?_
            refine SL.nil ?_
            refine QX.round (σ := Nat × Int) (Ef := fun q_ => [(0, 0, .agg #[.int .i64 t.num, .string t.loc, .string t.p1, .string t.p2, .string t.p3, .slice ao n cap, .int .i64 t.fare, .slice t.taxes.ao t.taxes.l.length t.taxes.cap, .int .i64 t.total, .int .i64 t.issued]), (1, 0, .int .i64 fee), (2, 0, .int .u16 more), (3, 0, .pointer (some ⟨b1, 0, none⟩)), (6, 0, .bool false), (7, 0, .pointer (some ⟨b2, 0, none⟩)), (8, 0, .int .i64 ((ofE l t.taxes.l fee).2)), (9, 0, .pointer (some ⟨b3, 0, none⟩)), (10, 0, .int .i64 ((ofE l t.taxes.l (fee + more)).2)), (11, 0, .pointer (some ⟨b4, 0, none⟩)), (12, 0, .int .i64 ((ofE l t.taxes.l 0).2)), (13, 0, .int .i64 ((unusedE l).1)), (14, 0, .int .i64 ((unusedE l).2)), (16, 0, .bool wh), (17, 0, .int .i64 ((k : Nat) : Int)), (19, 0, .agg #[.int .i64 t.num, .string t.loc, .string t.p1, .string t.p2, .string t.p3, .slice ao n cap, .int .i64 t.fare, .slice t.taxes.ao t.taxes.l.length t.taxes.cap, .int .i64 t.total, .int .i64 t.issued]), (20, 0, .bool ob), (22, 0, .tuple #[.agg #[.int .i64 ((ofE l t.taxes.l fee).1.1), .int .i64 ((ofE l t.taxes.l fee).1.2.1), .int .i64 ((ofE l t.taxes.l fee).1.2.2.1), .int .i64 ((ofE l t.taxes.l fee).1.2.2.2)], .int .i64 ((ofE l t.taxes.l fee).2)]), (23, 0, .agg #[.int .i64 t.num, .string t.loc, .string t.p1, .string t.p2, .string t.p3, .slice ao n cap, .int .i64 t.fare, .slice t.taxes.ao t.taxes.l.length t.taxes.cap, .int .i64 t.total, .int .i64 t.issued]), (24, 0, .int .i64 fee), (25, 0, .tuple #[.agg #[.int .i64 ((ofE l t.taxes.l fee).1.1), .int .i64 ((ofE l t.taxes.l fee).1.2.1), .int .i64 ((ofE l t.taxes.l fee).1.2.2.1), .int .i64 ((ofE l t.taxes.l fee).1.2.2.2)], .int .i64 ((ofE l t.taxes.l fee).2)]), (26, 0, .agg #[.int .i64 ((ofE l t.taxes.l fee).1.1), .int .i64 ((ofE l t.taxes.l fee).1.2.1), .int .i64 ((ofE l t.taxes.l fee).1.2.2.1), .int .i64 ((ofE l t.taxes.l fee).1.2.2.2)]), (27, 0, .int .i64 ((ofE l t.taxes.l fee).2)), (28, 0, .int .i64 ((ofE l t.taxes.l fee).2)), (29, 0, .bool (decide ((ofE l t.taxes.l fee).2 ≠ 0))), (36, 0, .tuple #[.agg #[.int .i64 ((ofE l t.taxes.l (fee + more)).1.1), .int .i64 ((ofE l t.taxes.l (fee + more)).1.2.1), .int .i64 ((ofE l t.taxes.l (fee + more)).1.2.2.1), .int .i64 ((ofE l t.taxes.l (fee + more)).1.2.2.2)], .int .i64 ((ofE l t.taxes.l (fee + more)).2)]), (37, 0, .agg #[.int .i64 t.num, .string t.loc, .string t.p1, .string t.p2, .string t.p3, .slice ao n cap, .int .i64 t.fare, .slice t.taxes.ao t.taxes.l.length t.taxes.cap, .int .i64 t.total, .int .i64 t.issued]), (38, 0, .int .i64 fee), (39, 0, .int .u16 more), (40, 0, .int .i64 more), (41, 0, .int .i64 (fee + more)), (42, 0, .tuple #[.agg #[.int .i64 ((ofE l t.taxes.l (fee + more)).1.1), .int .i64 ((ofE l t.taxes.l (fee + more)).1.2.1), .int .i64 ((ofE l t.taxes.l (fee + more)).1.2.2.1), .int .i64 ((ofE l t.taxes.l (fee + more)).1.2.2.2)], .int .i64 ((ofE l t.taxes.l (fee + more)).2)]), (43, 0, .agg #[.int .i64 ((ofE l t.taxes.l (fee + more)).1.1), .int .i64 ((ofE l t.taxes.l (fee + more)).1.2.1), .int .i64 ((ofE l t.taxes.l (fee + more)).1.2.2.1), .int .i64 ((ofE l t.taxes.l (fee + more)).1.2.2.2)]), (44, 0, .int .i64 ((ofE l t.taxes.l (fee + more)).2)), (45, 0, .tuple #[.agg #[.int .i64 ((ofE l t.taxes.l 0).1.1), .int .i64 ((ofE l t.taxes.l 0).1.2.1), .int .i64 ((ofE l t.taxes.l 0).1.2.2.1), .int .i64 ((ofE l t.taxes.l 0).1.2.2.2)], .int .i64 ((ofE l t.taxes.l 0).2)]), (46, 0, .agg #[.int .i64 t.num, .string t.loc, .string t.p1, .string t.p2, .string t.p3, .slice ao n cap, .int .i64 t.fare, .slice t.taxes.ao t.taxes.l.length t.taxes.cap, .int .i64 t.total, .int .i64 t.issued]), (47, 0, .tuple #[.agg #[.int .i64 ((ofE l t.taxes.l 0).1.1), .int .i64 ((ofE l t.taxes.l 0).1.2.1), .int .i64 ((ofE l t.taxes.l 0).1.2.2.1), .int .i64 ((ofE l t.taxes.l 0).1.2.2.2)], .int .i64 ((ofE l t.taxes.l 0).2)]), (48, 0, .agg #[.int .i64 ((ofE l t.taxes.l 0).1.1), .int .i64 ((ofE l t.taxes.l 0).1.2.1), .int .i64 ((ofE l t.taxes.l 0).1.2.2.1), .int .i64 ((ofE l t.taxes.l 0).1.2.2.2)]), (49, 0, .int .i64 ((ofE l t.taxes.l 0).2)), (50, 0, .tuple #[.int .i64 ((unusedE l).1), .int .i64 ((unusedE l).2)]), (51, 0, .agg #[.int .i64 t.num, .string t.loc, .string t.p1, .string t.p2, .string t.p3, .slice ao n cap, .int .i64 t.fare, .slice t.taxes.ao t.taxes.l.length t.taxes.cap, .int .i64 t.total, .int .i64 t.issued]), (52, 0, .tuple #[.int .i64 ((unusedE l).1), .int .i64 ((unusedE l).2)]), (53, 0, .int .i64 ((unusedE l).1)), (54, 0, .int .i64 ((unusedE l).2)), (55, 0, .int .i64 ((ofE l t.taxes.l (fee + more)).2)), (56, 0, .bool (decide ((ofE l t.taxes.l (fee + more)).2 = 0))), (57, 0, .bool (decide ((ofE l t.taxes.l (fee + more)).2 = 0))), (63, 0, .bool ((decide ((ofE l t.taxes.l (fee + more)).2 = 0)) && (decide ((ofE l t.taxes.l fee).1.2.2.2 < (ofE l t.taxes.l (fee + more)).1.2.2.2)))), (64, 0, .bool ((decide ((ofE l t.taxes.l (fee + more)).2 = 0)) && (decide ((ofE l t.taxes.l fee).1.2.2.2 < (ofE l t.taxes.l (fee + more)).1.2.2.2)))), (71, 0, .bool (((decide ((ofE l t.taxes.l (fee + more)).2 = 0)) && (decide ((ofE l t.taxes.l fee).1.2.2.2 < (ofE l t.taxes.l (fee + more)).1.2.2.2))) || ((decide ((ofE l t.taxes.l (fee + more)).2 ≠ 0)) && (decide ((ofE l t.taxes.l (fee + more)).2 ≠ 2))))), (72, 0, .bool (((decide ((ofE l t.taxes.l (fee + more)).2 = 0)) && (decide ((ofE l t.taxes.l fee).1.2.2.2 < (ofE l t.taxes.l (fee + more)).1.2.2.2))) || ((decide ((ofE l t.taxes.l (fee + more)).2 ≠ 0)) && (decide ((ofE l t.taxes.l (fee + more)).2 ≠ 2))))), (75, 0, .bool ((((decide ((ofE l t.taxes.l (fee + more)).2 = 0)) && (decide ((ofE l t.taxes.l fee).1.2.2.2 < (ofE l t.taxes.l (fee + more)).1.2.2.2))) || ((decide ((ofE l t.taxes.l (fee + more)).2 ≠ 0)) && (decide ((ofE l t.taxes.l (fee + more)).2 ≠ 2)))) || (decide ((ofE l t.taxes.l 0).2 ≠ 0)))), (76, 0, .bool ((((decide ((ofE l t.taxes.l (fee + more)).2 = 0)) && (decide ((ofE l t.taxes.l fee).1.2.2.2 < (ofE l t.taxes.l (fee + more)).1.2.2.2))) || ((decide ((ofE l t.taxes.l (fee + more)).2 ≠ 0)) && (decide ((ofE l t.taxes.l (fee + more)).2 ≠ 2)))) || (decide ((ofE l t.taxes.l 0).2 ≠ 0)))), (80, 0, .bool (((((decide ((ofE l t.taxes.l (fee + more)).2 = 0)) && (decide ((ofE l t.taxes.l fee).1.2.2.2 < (ofE l t.taxes.l (fee + more)).1.2.2.2))) || ((decide ((ofE l t.taxes.l (fee + more)).2 ≠ 0)) && (decide ((ofE l t.taxes.l (fee + more)).2 ≠ 2)))) || (decide ((ofE l t.taxes.l 0).2 ≠ 0))) || (decide ((ofE l t.taxes.l 0).1.2.2.1 ≠ 0)))), (81, 0, .bool (((((decide ((ofE l t.taxes.l (fee + more)).2 = 0)) && (decide ((ofE l t.taxes.l fee).1.2.2.2 < (ofE l t.taxes.l (fee + more)).1.2.2.2))) || ((decide ((ofE l t.taxes.l (fee + more)).2 ≠ 0)) && (decide ((ofE l t.taxes.l (fee + more)).2 ≠ 2)))) || (decide ((ofE l t.taxes.l 0).2 ≠ 0))) || (decide ((ofE l t.taxes.l 0).1.2.2.1 ≠ 0)))), (90, 0, .bool ((((((decide ((ofE l t.taxes.l (fee + more)).2 = 0)) && (decide ((ofE l t.taxes.l fee).1.2.2.2 < (ofE l t.taxes.l (fee + more)).1.2.2.2))) || ((decide ((ofE l t.taxes.l (fee + more)).2 ≠ 0)) && (decide ((ofE l t.taxes.l (fee + more)).2 ≠ 2)))) || (decide ((ofE l t.taxes.l 0).2 ≠ 0))) || (decide ((ofE l t.taxes.l 0).1.2.2.1 ≠ 0))) || (decide ((ofE l t.taxes.l 0).1.2.2.2 ≠ ((ofE l t.taxes.l fee).1.1) + ((ofE l t.taxes.l fee).1.2.1))))), (91, 0, .bool ((((((decide ((ofE l t.taxes.l (fee + more)).2 = 0)) && (decide ((ofE l t.taxes.l fee).1.2.2.2 < (ofE l t.taxes.l (fee + more)).1.2.2.2))) || ((decide ((ofE l t.taxes.l (fee + more)).2 ≠ 0)) && (decide ((ofE l t.taxes.l (fee + more)).2 ≠ 2)))) || (decide ((ofE l t.taxes.l 0).2 ≠ 0))) || (decide ((ofE l t.taxes.l 0).1.2.2.1 ≠ 0))) || (decide ((ofE l t.taxes.l 0).1.2.2.2 ≠ ((ofE l t.taxes.l fee).1.1) + ((ofE l t.taxes.l fee).1.2.1))))), (94, 0, .bool (((((((decide ((ofE l t.taxes.l (fee + more)).2 = 0)) && (decide ((ofE l t.taxes.l fee).1.2.2.2 < (ofE l t.taxes.l (fee + more)).1.2.2.2))) || ((decide ((ofE l t.taxes.l (fee + more)).2 ≠ 0)) && (decide ((ofE l t.taxes.l (fee + more)).2 ≠ 2)))) || (decide ((ofE l t.taxes.l 0).2 ≠ 0))) || (decide ((ofE l t.taxes.l 0).1.2.2.1 ≠ 0))) || (decide ((ofE l t.taxes.l 0).1.2.2.2 ≠ ((ofE l t.taxes.l fee).1.1) + ((ofE l t.taxes.l fee).1.2.1)))) || (decide ((unusedE l).2 ≠ 0)))), (95, 0, .bool (((((((decide ((ofE l t.taxes.l (fee + more)).2 = 0)) && (decide ((ofE l t.taxes.l fee).1.2.2.2 < (ofE l t.taxes.l (fee + more)).1.2.2.2))) || ((decide ((ofE l t.taxes.l (fee + more)).2 ≠ 0)) && (decide ((ofE l t.taxes.l (fee + more)).2 ≠ 2)))) || (decide ((ofE l t.taxes.l 0).2 ≠ 0))) || (decide ((ofE l t.taxes.l 0).1.2.2.1 ≠ 0))) || (decide ((ofE l t.taxes.l 0).1.2.2.2 ≠ ((ofE l t.taxes.l fee).1.1) + ((ofE l t.taxes.l fee).1.2.1)))) || (decide ((unusedE l).2 ≠ 0)))), (100, 0, .bool ((((((((decide ((ofE l t.taxes.l (fee + more)).2 = 0)) && (decide ((ofE l t.taxes.l fee).1.2.2.2 < (ofE l t.taxes.l (fee + more)).1.2.2.2))) || ((decide ((ofE l t.taxes.l (fee + more)).2 ≠ 0)) && (decide ((ofE l t.taxes.l (fee + more)).2 ≠ 2)))) || (decide ((ofE l t.taxes.l 0).2 ≠ 0))) || (decide ((ofE l t.taxes.l 0).1.2.2.1 ≠ 0))) || (decide ((ofE l t.taxes.l 0).1.2.2.2 ≠ ((ofE l t.taxes.l fee).1.1) + ((ofE l t.taxes.l fee).1.2.1)))) || (decide ((unusedE l).2 ≠ 0))) || (decide ((unusedE l).1 ≠ (ofE l t.taxes.l fee).1.1)))), (101, 0, .int .i64 ((k : Nat) : Int)), (102, 0, .pointer (some ⟨b1, 5, none⟩)), (103, 0, .slice ao n cap), (104, 0, .int .i64 ((n : Nat) : Int)), (105, 0, .bool (decide (((k : Nat) : Int) < ((n : Nat) : Int)))), (18, 0, .int .i64 ((q_.1 : Nat) : Int)), (15, 0, .int .i64 q_.2)]) (Hf := fun q_ => [Item.cells b1 [.int .i64 t.num, .string t.loc, .string t.p1, .string t.p2, .string t.p3, .slice ao n cap, .int .i64 t.fare, .slice t.taxes.ao t.taxes.l.length t.taxes.cap, .int .i64 t.total, .int .i64 t.issued] 27, Item.cells b2 [.int .i64 ((ofE l t.taxes.l fee).1.1), .int .i64 ((ofE l t.taxes.l fee).1.2.1), .int .i64 ((ofE l t.taxes.l fee).1.2.2.1), .int .i64 ((ofE l t.taxes.l fee).1.2.2.2)] 34, Item.cells b3 [.int .i64 ((ofE l t.taxes.l (fee + more)).1.1), .int .i64 ((ofE l t.taxes.l (fee + more)).1.2.1), .int .i64 ((ofE l t.taxes.l (fee + more)).1.2.2.1), .int .i64 ((ofE l t.taxes.l (fee + more)).1.2.2.2)] 34, Item.cells b4 [.int .i64 ((ofE l t.taxes.l 0).1.1), .int .i64 ((ofE l t.taxes.l 0).1.2.1), .int .i64 ((ofE l t.taxes.l 0).1.2.2.1), .int .i64 ((ofE l t.taxes.l 0).1.2.2.2)] 34]) (I := fun q_ => q_.1 ≤ t.taxes.l.length ∧ (wh = true → q_.2 = sumV (vals l) + sumV (amts (t.taxes.l.take q_.1)))) (μ := fun q_ => t.taxes.l.length - q_.1) (s := (j, s2)) 4 ((j + 1, wrap64 (s2 + (nth t.taxes.l j).2))) ⟨⟨(by first | omega | (dsimp only; omega)), fun q => sums_step2 (by omega) hO.2.1 (hwh (all_whole (by omega) (hs.1 q).1)) hF hT hO.2.2.2 (hs2 q)⟩, by first | omega | (dsimp only; omega)⟩ ⟨rfl, rfl, rfl, rfl, rfl, rfl, rfl, rfl, rfl, rfl, rfl, rfl, rfl, rfl, rfl, rfl, rfl, rfl, rfl, rfl, rfl, rfl, rfl, rfl, rfl, rfl, rfl, rfl, rfl, rfl, rfl, rfl, rfl, rfl, rfl, rfl, rfl, rfl, rfl, rfl, rfl, rfl, rfl, rfl, rfl, rfl, rfl, rfl, rfl, rfl, rfl, rfl, rfl, rfl, rfl, rfl, rfl, rfl, rfl, rfl, rfl, rfl, rfl, rfl, rfl, rfl, rfl, rfl, rfl, rfl, rfl, rfl, rfl, rfl, rfl, rfl, rfl, rfl, rfl, rfl, rfl, rfl, rfl, rfl, rfl, rfl, rfl, rfl, rfl, rfl, rfl, rfl, rfl, rfl, rfl, rfl, rfl, rfl, rfl, rfl, rfl, rfl, rfl, rfl, rfl, rfl, rfl, rfl, rfl, rfl, rfl, rfl, rfl, rfl, rfl, rfl, rfl, rfl, rfl, rfl, rfl, rfl, rfl, rfl, rfl, rfl, rfl, rfl, rfl, rfl, rfl, rfl, rfl, rfl, trivial⟩ rfl
          · try simp only [Bool.and_eq_true, Bool.or_eq_true, Bool.not_eq_true', Bool.not_eq_false', Bool.and_eq_false_iff, Bool.or_eq_false_iff, decide_eq_true_eq, decide_eq_false_iff_not, Int.not_lt, Int.not_le, ne_eq, Decidable.not_not] at h5
            refine WC.exit ?_
            refine QX.exit_then ?_
            refine QX.exit_then ?_
            refine QX.exit_hit ?_
            refine QX.then_ ?_
            refine WC.seq ?_
            refine WC.seq ?_
            refine WC.region ?_
            refine SL.pure rfl rfl rfl (PureOp.move rfl) ?_
            refine SL.pure rfl rfl rfl (PureOp.move rfl) ?_
            refine SL.newg 142 true rfl ?_
            refine SL.gpure (c := 1) rfl rfl rfl rfl rfl rfl rfl (PureOp.fieldAddrT 3 Try.underlying34 rfl sz3 rfl rfl) ?_
            refine SL.gpure (c := 1) rfl rfl rfl rfl rfl rfl rfl (PureOp.load (v := .int .i64 ((ofE l t.taxes.l 0).1.2.2.2)) Try.underlying3 rfl rfl (fun _ => (CellIs.cells 3 rfl rfl))) ?_
            refine SL.gpure (c := 1) rfl rfl rfl rfl rfl rfl rfl (PureOp.move rfl) ?_
            refine SL.gpure (c := 1) rfl rfl rfl rfl rfl rfl rfl (PureOp.neq rfl rfl) ?_
            refine SL.pure rfl rfl rfl (PureOp.and_ rfl rfl rfl rfl) ?_
            refine SL.nil_then ?_
            refine WC.cond rfl (fun h6 => ?_) (fun h6 => ?_)
            · try simp only [Bool.and_eq_true, Bool.or_eq_true, Bool.not_eq_true', Bool.not_eq_false', Bool.and_eq_false_iff, Bool.or_eq_false_iff, decide_eq_true_eq, decide_eq_false_iff_not, Int.not_lt, Int.not_le, ne_eq, Decidable.not_not] at h6
              exact (by exfalso; have q := hs2 h6.1; rw [List.take_of_length_le (by omega)] at q; have q2 := hwh (all_whole (by omega) (hs.1 h6.1).1); have q3 := h6.2; rw [z4] at q3; omega)
            · try simp only [Bool.and_eq_true, Bool.or_eq_true, Bool.not_eq_true', Bool.not_eq_false', Bool.and_eq_false_iff, Bool.or_eq_false_iff, decide_eq_true_eq, decide_eq_false_iff_not, Int.not_lt, Int.not_le, ne_eq, Decidable.not_not] at h6
              refine WC.skip ?_
              refine QX.then_ ?_
              refine WC.seq ?_
              refine WC.region ?_
              refine SL.pure rfl rfl rfl (PureOp.fieldAddrT 3 Try.underlying34 rfl sz3 rfl rfl) ?_
              refine SL.pure rfl rfl rfl (PureOp.load (v := .int .i64 ((ofE l t.taxes.l fee).1.2.2.2)) Try.underlying3 rfl rfl (fun _ => (CellIs.cells 1 rfl rfl))) ?_
              refine SL.pure rfl rfl rfl (PureOp.fieldAddrT 2 Try.underlying34 rfl sz3 rfl rfl) ?_
              refine SL.pure rfl rfl rfl (PureOp.load (v := .int .i64 ((ofE l t.taxes.l fee).1.2.2.1)) Try.underlying3 rfl rfl (fun _ => (CellIs.cells 1 rfl rfl))) ?_
              refine SL.pure rfl rfl rfl (PureOp.add rfl rfl (fun _ => by first | omega | (have q3 := ofE_fits l t.taxes.l fee; omega))) ?_
              refine SL.pure rfl rfl rfl (PureOp.fieldAddrT 0 Try.underlying34 rfl sz3 rfl rfl) ?_
              refine SL.pure rfl rfl rfl (PureOp.load (v := .int .i64 ((ofE l t.taxes.l fee).1.1)) Try.underlying3 rfl rfl (fun _ => (CellIs.cells 1 rfl rfl))) ?_
              refine SL.pure rfl rfl rfl (PureOp.fieldAddrT 1 Try.underlying34 rfl sz3 rfl rfl) ?_
              refine SL.pure rfl rfl rfl (PureOp.load (v := .int .i64 ((ofE l t.taxes.l fee).1.2.1)) Try.underlying3 rfl rfl (fun _ => (CellIs.cells 1 rfl rfl))) ?_
              refine SL.pure rfl rfl rfl (PureOp.add rfl rfl (fun _ => by first | omega | (have q3 := ofE_fits l t.taxes.l fee; omega))) ?_
              refine SL.pure rfl rfl rfl (PureOp.eql rfl rfl) ?_
              refine SL.pure rfl rfl rfl (PureOp.move rfl) ?_
              refine SL.newg 159 true rfl ?_
              refine SL.gpure (c := 2) rfl rfl rfl rfl rfl rfl rfl (PureOp.fieldAddrT 3 Try.underlying34 rfl sz3 rfl rfl) ?_
              refine SL.gpure (c := 2) rfl rfl rfl rfl rfl rfl rfl (PureOp.load (v := .int .i64 ((ofE l t.taxes.l fee).1.2.2.2)) Try.underlying3 rfl rfl (fun _ => (CellIs.cells 1 rfl rfl))) ?_
              refine SL.gpure (c := 2) rfl rfl rfl rfl rfl rfl rfl (PureOp.geq rfl rfl) ?_
              refine SL.pure rfl rfl rfl (PureOp.and_ rfl rfl rfl rfl) ?_
              refine SL.pure rfl rfl rfl (PureOp.move rfl) ?_
              refine SL.newg 164 true rfl ?_
              refine SL.gpure (c := 3) rfl rfl rfl rfl rfl rfl rfl (PureOp.fieldAddrT 2 Try.underlying34 rfl sz3 rfl rfl) ?_
              refine SL.gpure (c := 3) rfl rfl rfl rfl rfl rfl rfl (PureOp.load (v := .int .i64 ((ofE l t.taxes.l fee).1.2.2.1)) Try.underlying3 rfl rfl (fun _ => (CellIs.cells 1 rfl rfl))) ?_
              refine SL.gpure (c := 3) rfl rfl rfl rfl rfl rfl rfl (PureOp.geq rfl rfl) ?_
              refine SL.pure rfl rfl rfl (PureOp.and_ rfl rfl rfl rfl) ?_
              refine SL.pure rfl rfl rfl (PureOp.move rfl) ?_
              refine SL.newg 169 true rfl ?_
              refine SL.gpure (c := 4) rfl rfl rfl rfl rfl rfl rfl (PureOp.fieldAddrT 2 Try.underlying34 rfl sz3 rfl rfl) ?_
              refine SL.gpure (c := 4) rfl rfl rfl rfl rfl rfl rfl (PureOp.load (v := .int .i64 ((ofE l t.taxes.l fee).1.2.2.1)) Try.underlying3 rfl rfl (fun _ => (CellIs.cells 1 rfl rfl))) ?_
              refine SL.gpure (c := 4) rfl rfl rfl rfl rfl rfl rfl (PureOp.move rfl) ?_
              refine SL.gpure (c := 4) rfl rfl rfl rfl rfl rfl rfl (PureOp.leq rfl rfl) ?_
              refine SL.pure rfl rfl rfl (PureOp.and_ rfl rfl rfl rfl) ?_
              refine SL.pure rfl rfl rfl (PureOp.move rfl) ?_
              refine SL.newg 175 true rfl ?_
              refine SL.gpure (c := 5) rfl rfl rfl rfl rfl rfl rfl (PureOp.fieldAddrT 2 Try.underlying34 rfl sz3 rfl rfl) ?_
              refine SL.gpure (c := 5) rfl rfl rfl rfl rfl rfl rfl (PureOp.load (v := .int .i64 ((ofE l t.taxes.l fee).1.2.2.1)) Try.underlying3 rfl rfl (fun _ => (CellIs.cells 1 rfl rfl))) ?_
              refine SL.gpure (c := 5) rfl rfl rfl rfl rfl rfl rfl (PureOp.move rfl) ?_
              refine SL.gpure (c := 5) rfl rfl rfl rfl rfl rfl rfl (PureOp.eql rfl rfl) ?_
              refine SL.gpure (c := 5) rfl rfl rfl rfl rfl rfl rfl (PureOp.move rfl) ?_
              refine SL.newg 180 false rfl ?_
              refine SL.gpure (c := 6) rfl rfl rfl rfl rfl rfl rfl (PureOp.fieldAddrT 3 Try.underlying34 rfl sz3 rfl rfl) ?_
              refine SL.gpure (c := 6) rfl rfl rfl rfl rfl rfl rfl (PureOp.load (v := .int .i64 ((ofE l t.taxes.l fee).1.2.2.2)) Try.underlying3 rfl rfl (fun _ => (CellIs.cells 1 rfl rfl))) ?_
              refine SL.gpure (c := 6) rfl rfl rfl rfl rfl rfl rfl (PureOp.eql rfl rfl) ?_
              refine SL.gpure (c := 5) rfl rfl rfl rfl rfl rfl rfl (PureOp.or_ rfl rfl rfl rfl) ?_
              refine SL.pure rfl rfl rfl (PureOp.and_ rfl rfl rfl rfl) ?_
              refine SL.pure rfl rfl rfl (PureOp.move rfl) ?_
              refine SL.newg 186 true rfl ?_
              refine SL.gcalle (c := 7) rfl rfl rfl rfl rfl rfl rfl rfl rfl rfl callable13 (by intro hg; simp [gval] at hg; exact (fun w hw => knows_ok w)) ?_
              refine SL.norm [_, _, _, _] rfl ?_
              refine SL.pure rfl rfl rfl (PureOp.and_ rfl rfl rfl rfl) ?_
              refine SL.pure rfl rfl rfl (PureOp.assign rfl) ?_
              refine SL.nil_then ?_
              refine WC.ret ?_
              refine QX.ret1 rfl rfl ?_
              intro w hw
              refine congrArg Value.bool ?_
              rw [a1, a2, a3, a4]
              simp only [Bool.and_eq_true, Bool.or_eq_true, decide_eq_true_eq, and_true]
              omega

end Go.Proofs.Ytipmdakhmpaemaa
