import Derived.Test.YtipmdakhmpaemaaRfO
import Derived.Test.YtipmdakhmpaemaaSums
namespace Go.Proofs.Ytipmdakhmpaemaa
open Go Go.RowKit Eng
set_option linter.unusedVariables false
set_option linter.unusedSimpArgs false

set_option maxHeartbeats 4000000 in
set_option maxRecDepth 100000 in
theorem tells_law (t : TK) (l : List Cp) (ao : Option Addr) (n cap : Nat) (hn : n = l.length) (w0 : World) (hz : SliceIn w0 11 ao n cap (rowsF enc65 l)) (hx : SliceIn w0 2 t.taxes.ao t.taxes.l.length t.taxes.cap (rowsF enc67 t.taxes.l)) (fee : Int) (hv64 : ∀ c ∈ l, In64 c.2.2.2) (hx64 : ∀ y ∈ t.taxes.l, In64 y.2) : FnC Try.prog 3 [.agg #[.int .i64 t.num, .string t.loc, .string t.p1, .string t.p2, .string t.p3, .slice ao n cap, .int .i64 t.fare, .slice t.taxes.ao t.taxes.l.length t.taxes.cap, .int .i64 t.total, .int .i64 t.issued], .int .i64 fee] w0 fun v w' => v = .bool true := by
  refine fnc (N := 59) Try.func3 rfl rfl rfl ?_
  refine WC.seq ?_
  refine WC.region ?_
  refine SL.box rfl rfl rfl (fun b1 hb1 => ?_)
  refine SL.norm [_] rfl ?_
  refine SL.pure rfl rfl rfl (PureOp.assign rfl) ?_
  refine SL.nil_then ?_
  refine WC.seq ?_
  refine WC.seq ?_
  refine WC.region ?_
  refine SL.pure rfl rfl rfl (PureOp.loads (vs := [.int .i64 t.num, .string t.loc, .string t.p1, .string t.p2, .string t.p3, .slice ao n cap, .int .i64 t.fare, .slice t.taxes.ao t.taxes.l.length t.taxes.cap, .int .i64 t.total, .int .i64 t.issued]) Try.underlying27 rfl rfl (fun _ => (RowIs.cells 0 0 10 rfl rfl)) sz27) ?_
  refine SL.callv rfl rfl rfl rfl rfl rfl callable12 (fun w hw => odd_ok t l ao n cap hn w (hz.below hw.below) (hx.below hw.below)) ?_
  rintro v ⟨ob, rfl, hodd⟩
  refine SL.norm [_] rfl ?_
  refine SL.nil_then ?_
  refine WC.cond rfl (fun h1 => ?_) (fun h1 => ?_)
  · try simp only [Bool.and_eq_true, Bool.or_eq_true, Bool.not_eq_true', Bool.not_eq_false', Bool.and_eq_false_iff, Bool.or_eq_false_iff, decide_eq_true_eq, decide_eq_false_iff_not, Int.not_lt, Int.not_le, ne_eq, Decidable.not_not] at h1
    refine WC.seq ?_
    refine WC.region ?_
    refine SL.calle rfl rfl rfl rfl rfl rfl callable13 (fun w hw => knows_ok w) ?_
    refine SL.norm [_] rfl ?_
    refine SL.pure rfl rfl rfl (PureOp.assign rfl) ?_
    refine SL.nil_then ?_
    refine WC.ret ?_
    refine QX.ret_then ?_
    refine QX.ret1 rfl rfl ?_
    intro w hw
    rfl
  · try simp only [Bool.and_eq_true, Bool.or_eq_true, Bool.not_eq_true', Bool.not_eq_false', Bool.and_eq_false_iff, Bool.or_eq_false_iff, decide_eq_true_eq, decide_eq_false_iff_not, Int.not_lt, Int.not_le, ne_eq, Decidable.not_not] at h1
    have hO := hodd h1
    have hnb : n ≤ 1000 := by have q := hO.2.2.1; omega
    have hxb : t.taxes.l.length ≤ 1000 := by have q := hO.2.2.2; omega
    have h64 : ∀ x ∈ opens l, In64 x := fun x hq => by obtain ⟨c, hc, rfl⟩ := opens_mem hq; exact hv64 c hc
    have h64x : ∀ x ∈ amts t.taxes.l, In64 x := fun x hq => by obtain ⟨c, hc, rfl⟩ := amts_mem hq; exact hx64 c hc
    refine WC.skip ?_
    refine QX.then_ ?_
    refine WC.seq ?_
    refine WC.region ?_
    refine SL.pure rfl rfl rfl (PureOp.loads (vs := [.int .i64 t.num, .string t.loc, .string t.p1, .string t.p2, .string t.p3, .slice ao n cap, .int .i64 t.fare, .slice t.taxes.ao t.taxes.l.length t.taxes.cap, .int .i64 t.total, .int .i64 t.issued]) Try.underlying27 rfl rfl (fun _ => (RowIs.cells 0 0 10 rfl rfl)) sz27) ?_
    refine SL.calle rfl rfl rfl rfl rfl rfl callable14 (fun w hw => unused_ok t l ao n cap hn w (hz.below hw.below) hnb (hx.below hw.below) hxb) ?_
    refine SL.norm [_] rfl ?_
    refine SL.pure rfl rfl rfl (PureOp.move rfl) ?_
    refine SL.pure rfl rfl rfl (PureOp.extract rfl rfl) ?_
    refine SL.pure rfl rfl rfl (PureOp.extract rfl rfl) ?_
    refine SL.pure rfl rfl rfl (PureOp.assign rfl) ?_
    refine SL.pure rfl rfl rfl (PureOp.assign rfl) ?_
    refine SL.nil_then ?_
    refine WC.seq ?_
    refine WC.region ?_
    refine SL.pure rfl rfl rfl (PureOp.loads (vs := [.int .i64 t.num, .string t.loc, .string t.p1, .string t.p2, .string t.p3, .slice ao n cap, .int .i64 t.fare, .slice t.taxes.ao t.taxes.l.length t.taxes.cap, .int .i64 t.total, .int .i64 t.issued]) Try.underlying27 rfl rfl (fun _ => (RowIs.cells 0 0 10 rfl rfl)) sz27) ?_
    refine SL.calle rfl rfl rfl rfl rfl rfl callable15 (fun w hw => runused_ok t l ao n cap hn w (hz.below hw.below) hnb (hx.below hw.below) hxb h64) ?_
    refine SL.norm [_] rfl ?_
    refine SL.pure rfl rfl rfl (PureOp.move rfl) ?_
    refine SL.pure rfl rfl rfl (PureOp.extract rfl rfl) ?_
    refine SL.pure rfl rfl rfl (PureOp.extract rfl rfl) ?_
    refine SL.pure rfl rfl rfl (PureOp.assign rfl) ?_
    refine SL.pure rfl rfl rfl (PureOp.assign rfl) ?_
    refine SL.nil_then ?_
    refine WC.seq ?_
    refine WC.region ?_
    refine SL.pure rfl rfl rfl (PureOp.loads (vs := [.int .i64 t.num, .string t.loc, .string t.p1, .string t.p2, .string t.p3, .slice ao n cap, .int .i64 t.fare, .slice t.taxes.ao t.taxes.l.length t.taxes.cap, .int .i64 t.total, .int .i64 t.issued]) Try.underlying27 rfl rfl (fun _ => (RowIs.cells 0 0 10 rfl rfl)) sz27) ?_
    refine SL.pure rfl rfl rfl (PureOp.move rfl) ?_
    refine SL.calle rfl rfl rfl rfl rfl rfl callable16 (fun w hw => of_ok t l ao n cap hn w (hz.below hw.below) hnb (hx.below hw.below) hxb fee) ?_
    refine SL.norm [_] rfl ?_
    refine SL.pure rfl rfl rfl (PureOp.move rfl) ?_
    refine SL.pure rfl rfl rfl (PureOp.extract rfl rfl) ?_
    refine SL.pure rfl rfl rfl (PureOp.extract rfl rfl) ?_
    refine SL.alloc rfl rfl zero34 (fun b2 hb2 => ?_)
    refine SL.norm [_, _] rfl ?_
    refine SL.store 1 rfl rfl rfl rfl sz34 rfl rfl ?_
    refine SL.norm [_, _] rfl ?_
    refine SL.pure rfl rfl rfl (PureOp.assign rfl) ?_
    refine SL.nil_then ?_
    refine WC.seq ?_
    refine WC.region ?_
    refine SL.pure rfl rfl rfl (PureOp.loads (vs := [.int .i64 t.num, .string t.loc, .string t.p1, .string t.p2, .string t.p3, .slice ao n cap, .int .i64 t.fare, .slice t.taxes.ao t.taxes.l.length t.taxes.cap, .int .i64 t.total, .int .i64 t.issued]) Try.underlying27 rfl rfl (fun _ => (RowIs.cells 0 0 10 rfl rfl)) sz27) ?_
    refine SL.pure rfl rfl rfl (PureOp.move rfl) ?_
    refine SL.calle rfl rfl rfl rfl rfl rfl callable17 (fun w hw => rof_ok t l ao n cap hn w (hz.below hw.below) hnb (hx.below hw.below) hxb fee h64 h64x) ?_
    refine SL.norm [_, _] rfl ?_
    refine SL.pure rfl rfl rfl (PureOp.move rfl) ?_
    refine SL.pure rfl rfl rfl (PureOp.extract rfl rfl) ?_
    refine SL.pure rfl rfl rfl (PureOp.extract rfl rfl) ?_
    refine SL.alloc rfl rfl zero37 (fun b3 hb3 => ?_)
    refine SL.norm [_, _, _] rfl ?_
    refine SL.store 2 rfl rfl rfl rfl sz37 rfl rfl ?_
    refine SL.norm [_, _, _] rfl ?_
    refine SL.pure rfl rfl rfl (PureOp.assign rfl) ?_
    refine SL.nil_then ?_
    refine WC.seq ?_
    refine WC.region ?_
    refine SL.pure rfl rfl rfl (PureOp.move rfl) ?_
    refine SL.pure rfl rfl rfl (PureOp.move rfl) ?_
    refine SL.pure rfl rfl rfl (PureOp.eql rfl rfl) ?_
    refine SL.pure rfl rfl rfl (PureOp.move rfl) ?_
    refine SL.newg 41 true rfl ?_
    refine SL.gpure (c := 1) rfl rfl rfl rfl rfl rfl rfl (PureOp.move rfl) ?_
    refine SL.gpure (c := 1) rfl rfl rfl rfl rfl rfl rfl (PureOp.move rfl) ?_
    refine SL.gpure (c := 1) rfl rfl rfl rfl rfl rfl rfl (PureOp.eql rfl rfl) ?_
    refine SL.pure rfl rfl rfl (PureOp.and_ rfl rfl rfl rfl) ?_
    refine SL.pure rfl rfl rfl (PureOp.move rfl) ?_
    refine SL.newg 46 true rfl ?_
    refine SL.gpure (c := 2) rfl rfl rfl rfl rfl rfl rfl (PureOp.loads (vs := [.int .i64 ((ofE l t.taxes.l fee).1.1), .int .i64 ((ofE l t.taxes.l fee).1.2.1), .int .i64 ((ofE l t.taxes.l fee).1.2.2.1), .int .i64 ((ofE l t.taxes.l fee).1.2.2.2)]) Try.underlying34 rfl rfl (fun _ => (RowIs.cells 1 0 4 rfl rfl)) sz34) ?_
    refine SL.gpure (c := 2) rfl rfl rfl rfl rfl rfl rfl (PureOp.loads (vs := [.int .i64 ((ofE l t.taxes.l fee).1.1), .int .i64 ((ofE l t.taxes.l fee).1.2.1), .int .i64 ((ofE l t.taxes.l fee).1.2.2.1), .int .i64 ((ofE l t.taxes.l fee).1.2.2.2)]) Try.underlying37 rfl rfl (fun _ => (RowIs.cells 2 0 4 rfl rfl)) sz37) ?_
    refine SL.gcalle (c := 2) rfl rfl rfl rfl rfl rfl rfl rfl rfl rfl callable18 (by intro hg; simp [gval] at hg; exact (fun w hw => samep_ok ((ofE l t.taxes.l fee).1) w)) ?_
    refine SL.norm [_, _, _] rfl ?_
    refine SL.pure rfl rfl rfl (PureOp.and_ rfl rfl rfl rfl) ?_
    refine SL.pure rfl rfl rfl (PureOp.move rfl) ?_
    refine SL.newg 51 true rfl ?_
    refine SL.gpure (c := 3) rfl rfl rfl rfl rfl rfl rfl (PureOp.move rfl) ?_
    refine SL.gpure (c := 3) rfl rfl rfl rfl rfl rfl rfl (PureOp.move rfl) ?_
    refine SL.gpure (c := 3) rfl rfl rfl rfl rfl rfl rfl (PureOp.eql rfl rfl) ?_
    refine SL.pure rfl rfl rfl (PureOp.and_ rfl rfl rfl rfl) ?_
    refine SL.pure rfl rfl rfl (PureOp.move rfl) ?_
    refine SL.newg 56 true rfl ?_
    refine SL.gcalle (c := 4) rfl rfl rfl rfl rfl rfl rfl rfl rfl rfl callable13 (by intro hg; simp [gval] at hg; exact (fun w hw => knows_ok w)) ?_
    refine SL.norm [_, _, _] rfl ?_
    refine SL.pure rfl rfl rfl (PureOp.and_ rfl rfl rfl rfl) ?_
    refine SL.pure rfl rfl rfl (PureOp.assign rfl) ?_
    refine SL.nil_then ?_
    refine WC.ret ?_
    refine QX.ret1 rfl rfl ?_
    intro w hw
    simp

set_option maxHeartbeats 4000000 in
set_option maxRecDepth 100000 in
theorem applies_law (t : TK) (l : List Cp) (ao : Option Addr) (n cap : Nat) (hn : n = l.length) (w0 : World) (hz : SliceIn w0 11 ao n cap (rowsF enc65 l)) (hx : SliceIn w0 2 t.taxes.ao t.taxes.l.length t.taxes.cap (rowsF enc67 t.taxes.l)) (fee : Int) (hv64 : ∀ c ∈ l, In64 c.2.2.2) (hx64 : ∀ y ∈ t.taxes.l, In64 y.2) : FnC Try.prog 4 [.agg #[.int .i64 t.num, .string t.loc, .string t.p1, .string t.p2, .string t.p3, .slice ao n cap, .int .i64 t.fare, .slice t.taxes.ao t.taxes.l.length t.taxes.cap, .int .i64 t.total, .int .i64 t.issued], .int .i64 fee] w0 fun v w' => v = .bool true := by
  refine fnc (N := 56) Try.func4 rfl rfl rfl ?_
  refine WC.seq ?_
  refine WC.region ?_
  refine SL.box rfl rfl rfl (fun b1 hb1 => ?_)
  refine SL.norm [_] rfl ?_
  refine SL.pure rfl rfl rfl (PureOp.assign rfl) ?_
  refine SL.nil_then ?_
  refine WC.seq ?_
  refine WC.seq ?_
  refine WC.region ?_
  refine SL.pure rfl rfl rfl (PureOp.loads (vs := [.int .i64 t.num, .string t.loc, .string t.p1, .string t.p2, .string t.p3, .slice ao n cap, .int .i64 t.fare, .slice t.taxes.ao t.taxes.l.length t.taxes.cap, .int .i64 t.total, .int .i64 t.issued]) Try.underlying27 rfl rfl (fun _ => (RowIs.cells 0 0 10 rfl rfl)) sz27) ?_
  refine SL.callv rfl rfl rfl rfl rfl rfl callable12 (fun w hw => odd_ok t l ao n cap hn w (hz.below hw.below) (hx.below hw.below)) ?_
  rintro v ⟨ob, rfl, hodd⟩
  refine SL.norm [_] rfl ?_
  refine SL.nil_then ?_
  refine WC.cond rfl (fun h1 => ?_) (fun h1 => ?_)
  · try simp only [Bool.and_eq_true, Bool.or_eq_true, Bool.not_eq_true', Bool.not_eq_false', Bool.and_eq_false_iff, Bool.or_eq_false_iff, decide_eq_true_eq, decide_eq_false_iff_not, Int.not_lt, Int.not_le, ne_eq, Decidable.not_not] at h1
    refine WC.seq ?_
    refine WC.region ?_
    refine SL.calle rfl rfl rfl rfl rfl rfl callable13 (fun w hw => knows_ok w) ?_
    refine SL.norm [_] rfl ?_
    refine SL.pure rfl rfl rfl (PureOp.assign rfl) ?_
    refine SL.nil_then ?_
    refine WC.ret ?_
    refine QX.ret_then ?_
    refine QX.ret1 rfl rfl ?_
    intro w hw
    rfl
  · try simp only [Bool.and_eq_true, Bool.or_eq_true, Bool.not_eq_true', Bool.not_eq_false', Bool.and_eq_false_iff, Bool.or_eq_false_iff, decide_eq_true_eq, decide_eq_false_iff_not, Int.not_lt, Int.not_le, ne_eq, Decidable.not_not] at h1
    have hO := hodd h1
    have hnb : n ≤ 1000 := by have q := hO.2.2.1; omega
    have hxb : t.taxes.l.length ≤ 1000 := by have q := hO.2.2.2; omega
    have h64 : ∀ x ∈ opens l, In64 x := fun x hq => by obtain ⟨c, hc, rfl⟩ := opens_mem hq; exact hv64 c hc
    have h64x : ∀ x ∈ amts t.taxes.l, In64 x := fun x hq => by obtain ⟨c, hc, rfl⟩ := amts_mem hq; exact hx64 c hc
    refine WC.skip ?_
    refine QX.then_ ?_
    refine WC.seq ?_
    refine WC.region ?_
    refine SL.pure rfl rfl rfl (PureOp.loads (vs := [.int .i64 t.num, .string t.loc, .string t.p1, .string t.p2, .string t.p3, .slice ao n cap, .int .i64 t.fare, .slice t.taxes.ao t.taxes.l.length t.taxes.cap, .int .i64 t.total, .int .i64 t.issued]) Try.underlying27 rfl rfl (fun _ => (RowIs.cells 0 0 10 rfl rfl)) sz27) ?_
    refine SL.alloc rfl rfl zero27 (fun b2 hb2 => ?_)
    refine SL.norm [_, _] rfl ?_
    refine SL.store 1 rfl rfl rfl rfl sz27 rfl rfl ?_
    refine SL.norm [_, _] rfl ?_
    refine SL.nil_then ?_
    refine WC.seq ?_
    refine WC.region ?_
    refine SL.buildSlice0 rfl rfl Try.underlying24 elem65 (fun b3 hb3 => ?_)
    refine SL.norm [_, _, _] rfl ?_
    refine SL.pure rfl rfl rfl (PureOp.fieldAddrT 5 Try.underlying27 rfl sz24 rfl rfl) ?_
    refine SL.pure rfl rfl rfl (PureOp.load (v := .slice ao n cap) Try.underlying24 rfl rfl (fun _ => (CellIs.cells 0 rfl rfl))) ?_
    refine SL.append 2 rfl rfl Try.underlying24 elem65 rfl rfl rfl rfl (SrcIs.in_ hz enc65_len hn) (by exact all_one_cells (fun x => rfl) l) (by omega) (by omega) (fun ao1_ cap1_ => ?_)
    refine SL.norm [_, _, _] rfl ?_
    refine SL.pure rfl rfl rfl (PureOp.fieldAddrT 5 Try.underlying27 rfl sz24 rfl rfl) ?_
    refine SL.store 1 rfl rfl rfl rfl sz24 rfl rfl ?_
    refine SL.norm [_, _, _] rfl ?_
    refine SL.nil_then ?_
    refine WC.seq ?_
    refine WC.region ?_
    refine SL.pure rfl rfl rfl (PureOp.loads (vs := [.int .i64 t.num, .string t.loc, .string t.p1, .string t.p2, .string t.p3, .slice ao n cap, .int .i64 t.fare, .slice t.taxes.ao t.taxes.l.length t.taxes.cap, .int .i64 t.total, .int .i64 t.issued]) Try.underlying27 rfl rfl (fun _ => (RowIs.cells 0 0 10 rfl rfl)) sz27) ?_
    refine SL.pure rfl rfl rfl (PureOp.move rfl) ?_
    refine SL.callo (fun ya yc => .tuple #[.agg #[.int .i64 ((tkA t (ofE l t.taxes.l fee).2).num), .string ((tkA t (ofE l t.taxes.l fee).2).loc), .string ((tkA t (ofE l t.taxes.l fee).2).p1), .string ((tkA t (ofE l t.taxes.l fee).2).p2), .string ((tkA t (ofE l t.taxes.l fee).2).p3), .slice ya ((lA l 9 (ofE l t.taxes.l fee).2).length) yc, .int .i64 ((tkA t (ofE l t.taxes.l fee).2).fare), .slice ((tkA t (ofE l t.taxes.l fee).2).taxes.ao) ((tkA t (ofE l t.taxes.l fee).2).taxes.l.length) ((tkA t (ofE l t.taxes.l fee).2).taxes.cap), .int .i64 ((tkA t (ofE l t.taxes.l fee).2).total), .int .i64 ((tkA t (ofE l t.taxes.l fee).2).issued)], .agg #[.int .i64 ((ofE l t.taxes.l fee).1.1), .int .i64 ((ofE l t.taxes.l fee).1.2.1), .int .i64 ((ofE l t.taxes.l fee).1.2.2.1), .int .i64 ((ofE l t.taxes.l fee).1.2.2.2)], .int .i64 ((ofE l t.taxes.l fee).2)]) rfl rfl rfl rfl rfl rfl callable19 (fun w hw => apply_ok t l ao n cap hn w (hz.below hw.below) hnb (hx.below hw.below) hxb fee) (fun ya yc => ?_)
    refine SL.norm [_, _, _, _] rfl ?_
    refine SL.pure rfl rfl rfl (PureOp.move rfl) ?_
    refine SL.pure rfl rfl rfl (PureOp.extract rfl rfl) ?_
    refine SL.pure rfl rfl rfl (PureOp.extract rfl rfl) ?_
    refine SL.pure rfl rfl rfl (PureOp.extract rfl rfl) ?_
    refine SL.alloc rfl rfl zero27 (fun b4 hb4 => ?_)
    refine SL.norm [_, _, _, _, _] rfl ?_
    refine SL.alloc rfl rfl zero34 (fun b5 hb5 => ?_)
    refine SL.norm [_, _, _, _, _, _] rfl ?_
    refine SL.store 4 rfl rfl rfl rfl sz27 rfl rfl ?_
    refine SL.norm [_, _, _, _, _, _] rfl ?_
    refine SL.store 5 rfl rfl rfl rfl sz34 rfl rfl ?_
    refine SL.norm [_, _, _, _, _, _] rfl ?_
    refine SL.pure rfl rfl rfl (PureOp.assign rfl) ?_
    refine SL.nil_then ?_
    refine WC.seq ?_
    refine WC.region ?_
    refine SL.pure rfl rfl rfl (PureOp.loads (vs := [.int .i64 t.num, .string t.loc, .string t.p1, .string t.p2, .string t.p3, .slice ao n cap, .int .i64 t.fare, .slice t.taxes.ao t.taxes.l.length t.taxes.cap, .int .i64 t.total, .int .i64 t.issued]) Try.underlying27 rfl rfl (fun _ => (RowIs.cells 0 0 10 rfl rfl)) sz27) ?_
    refine SL.pure rfl rfl rfl (PureOp.move rfl) ?_
    refine SL.callo (fun za zc => .tuple #[.agg #[.int .i64 ((tkA t (ofE l t.taxes.l fee).2).num), .string ((tkA t (ofE l t.taxes.l fee).2).loc), .string ((tkA t (ofE l t.taxes.l fee).2).p1), .string ((tkA t (ofE l t.taxes.l fee).2).p2), .string ((tkA t (ofE l t.taxes.l fee).2).p3), .slice za ((lA l 9 (ofE l t.taxes.l fee).2).length) zc, .int .i64 ((tkA t (ofE l t.taxes.l fee).2).fare), .slice ((tkA t (ofE l t.taxes.l fee).2).taxes.ao) ((tkA t (ofE l t.taxes.l fee).2).taxes.l.length) ((tkA t (ofE l t.taxes.l fee).2).taxes.cap), .int .i64 ((tkA t (ofE l t.taxes.l fee).2).total), .int .i64 ((tkA t (ofE l t.taxes.l fee).2).issued)], .agg #[.int .i64 ((ofE l t.taxes.l fee).1.1), .int .i64 ((ofE l t.taxes.l fee).1.2.1), .int .i64 ((ofE l t.taxes.l fee).1.2.2.1), .int .i64 ((ofE l t.taxes.l fee).1.2.2.2)], .int .i64 ((ofE l t.taxes.l fee).2)]) rfl rfl rfl rfl rfl rfl callable20 (fun w hw => rapply_ok t l ao n cap hn w (hz.below hw.below) hnb (hx.below hw.below) hxb fee h64 h64x) (fun za zc => ?_)
    refine SL.norm [_, _, _, _, _, _, _] rfl ?_
    refine SL.pure rfl rfl rfl (PureOp.move rfl) ?_
    refine SL.pure rfl rfl rfl (PureOp.extract rfl rfl) ?_
    refine SL.pure rfl rfl rfl (PureOp.extract rfl rfl) ?_
    refine SL.pure rfl rfl rfl (PureOp.extract rfl rfl) ?_
    refine SL.alloc rfl rfl zero27 (fun b6 hb6 => ?_)
    refine SL.norm [_, _, _, _, _, _, _, _] rfl ?_
    refine SL.alloc rfl rfl zero37 (fun b7 hb7 => ?_)
    refine SL.norm [_, _, _, _, _, _, _, _, _] rfl ?_
    refine SL.store 7 rfl rfl rfl rfl sz27 rfl rfl ?_
    refine SL.norm [_, _, _, _, _, _, _, _, _] rfl ?_
    refine SL.store 8 rfl rfl rfl rfl sz37 rfl rfl ?_
    refine SL.norm [_, _, _, _, _, _, _, _, _] rfl ?_
    refine SL.pure rfl rfl rfl (PureOp.assign rfl) ?_
    refine SL.nil_then ?_
    refine WC.seq ?_
    refine WC.region ?_
    refine SL.pure rfl rfl rfl (PureOp.loads (vs := [.int .i64 ((tkA t (ofE l t.taxes.l fee).2).num), .string ((tkA t (ofE l t.taxes.l fee).2).loc), .string ((tkA t (ofE l t.taxes.l fee).2).p1), .string ((tkA t (ofE l t.taxes.l fee).2).p2), .string ((tkA t (ofE l t.taxes.l fee).2).p3), .slice ya ((lA l 9 (ofE l t.taxes.l fee).2).length) yc, .int .i64 ((tkA t (ofE l t.taxes.l fee).2).fare), .slice ((tkA t (ofE l t.taxes.l fee).2).taxes.ao) ((tkA t (ofE l t.taxes.l fee).2).taxes.l.length) ((tkA t (ofE l t.taxes.l fee).2).taxes.cap), .int .i64 ((tkA t (ofE l t.taxes.l fee).2).total), .int .i64 ((tkA t (ofE l t.taxes.l fee).2).issued)]) Try.underlying27 rfl rfl (fun _ => (RowIs.cells 4 0 10 rfl rfl)) sz27) ?_
    refine SL.pure rfl rfl rfl (PureOp.loads (vs := [.int .i64 ((tkA t (ofE l t.taxes.l fee).2).num), .string ((tkA t (ofE l t.taxes.l fee).2).loc), .string ((tkA t (ofE l t.taxes.l fee).2).p1), .string ((tkA t (ofE l t.taxes.l fee).2).p2), .string ((tkA t (ofE l t.taxes.l fee).2).p3), .slice za ((lA l 9 (ofE l t.taxes.l fee).2).length) zc, .int .i64 ((tkA t (ofE l t.taxes.l fee).2).fare), .slice ((tkA t (ofE l t.taxes.l fee).2).taxes.ao) ((tkA t (ofE l t.taxes.l fee).2).taxes.l.length) ((tkA t (ofE l t.taxes.l fee).2).taxes.cap), .int .i64 ((tkA t (ofE l t.taxes.l fee).2).total), .int .i64 ((tkA t (ofE l t.taxes.l fee).2).issued)]) Try.underlying27 rfl rfl (fun _ => (RowIs.cells 7 0 10 rfl rfl)) sz27) ?_
    refine SL.calle rfl rfl rfl rfl rfl rfl callable21 (fun w hw => same41_ok (tkA t (ofE l t.taxes.l fee).2) (lA l 9 (ofE l t.taxes.l fee).2) _ _ _ _ _ _ rfl rfl w (SliceIn.rows (hw.mem (i := 3) rfl) enc65_len (Nat.le_refl _)) (SliceIn.rows (hw.mem (i := 6) rfl) enc65_len (Nat.le_refl _)) (lA_le (by omega)) (tkA_tax (hx.below hw.below)) (tkA_len hxb)) ?_
    refine SL.norm [_, _, _, _, _, _, _, _, _] rfl ?_
    refine SL.pure rfl rfl rfl (PureOp.move rfl) ?_
    refine SL.ung rfl rfl rfl rfl ?_
    refine SL.pure rfl rfl rfl (PureOp.loads (vs := [.int .i64 ((ofE l t.taxes.l fee).1.1), .int .i64 ((ofE l t.taxes.l fee).1.2.1), .int .i64 ((ofE l t.taxes.l fee).1.2.2.1), .int .i64 ((ofE l t.taxes.l fee).1.2.2.2)]) Try.underlying34 rfl rfl (fun _ => (RowIs.cells 5 0 4 rfl rfl)) sz34) ?_
    refine SL.ung rfl rfl rfl rfl ?_
    refine SL.pure rfl rfl rfl (PureOp.loads (vs := [.int .i64 ((ofE l t.taxes.l fee).1.1), .int .i64 ((ofE l t.taxes.l fee).1.2.1), .int .i64 ((ofE l t.taxes.l fee).1.2.2.1), .int .i64 ((ofE l t.taxes.l fee).1.2.2.2)]) Try.underlying37 rfl rfl (fun _ => (RowIs.cells 8 0 4 rfl rfl)) sz37) ?_
    refine SL.ung rfl rfl rfl rfl ?_
    refine SL.calle rfl rfl rfl rfl rfl rfl callable18 (fun w hw => samep_ok ((ofE l t.taxes.l fee).1) w) ?_
    refine SL.norm [_, _, _, _, _, _, _, _, _] rfl ?_
    refine SL.pure rfl rfl rfl (PureOp.pickT rfl rfl) ?_
    refine SL.pure rfl rfl rfl (PureOp.move rfl) ?_
    refine SL.ung rfl rfl rfl rfl ?_
    refine SL.pure rfl rfl rfl (PureOp.move rfl) ?_
    refine SL.ung rfl rfl rfl rfl ?_
    refine SL.pure rfl rfl rfl (PureOp.move rfl) ?_
    refine SL.ung rfl rfl rfl rfl ?_
    refine SL.pure rfl rfl rfl (PureOp.eql rfl rfl) ?_
    refine SL.pure rfl rfl rfl (PureOp.pickT rfl rfl) ?_
    refine SL.pure rfl rfl rfl (PureOp.move rfl) ?_
    refine SL.newg 48 true rfl ?_
    refine SL.gpure (c := 1) rfl rfl rfl rfl rfl rfl rfl (PureOp.loads (vs := [.int .i64 t.num, .string t.loc, .string t.p1, .string t.p2, .string t.p3, .slice ao n cap, .int .i64 t.fare, .slice t.taxes.ao t.taxes.l.length t.taxes.cap, .int .i64 t.total, .int .i64 t.issued]) Try.underlying27 rfl rfl (fun _ => (RowIs.cells 0 0 10 rfl rfl)) sz27) ?_
    refine SL.gpure (c := 1) rfl rfl rfl rfl rfl rfl rfl (PureOp.loads (vs := [.int .i64 t.num, .string t.loc, .string t.p1, .string t.p2, .string t.p3, .slice ao1_ (0 + n) cap1_, .int .i64 t.fare, .slice t.taxes.ao t.taxes.l.length t.taxes.cap, .int .i64 t.total, .int .i64 t.issued]) Try.underlying27 rfl rfl (fun _ => (RowIs.cells 1 0 10 rfl rfl)) sz27) ?_
    refine SL.gcalle (c := 1) rfl rfl rfl rfl rfl rfl rfl rfl rfl rfl callable21 (by intro hg; simp [gval] at hg; exact (fun w hw => same41_ok t l ao _ n _ cap _ hn (by omega) w (hz.below hw.below) (SliceIn.rows (hw.mem (i := 2) rfl) enc65_len (by omega)) hnb (hx.below hw.below) hxb)) ?_
    refine SL.norm [_, _, _, _, _, _, _, _, _] rfl ?_
    refine SL.pure rfl rfl rfl (PureOp.and_ rfl rfl rfl rfl) ?_
    refine SL.pure rfl rfl rfl (PureOp.move rfl) ?_
    refine SL.newg 53 true rfl ?_
    refine SL.gcalle (c := 2) rfl rfl rfl rfl rfl rfl rfl rfl rfl rfl callable13 (by intro hg; simp [gval] at hg; exact (fun w hw => knows_ok w)) ?_
    refine SL.norm [_, _, _, _, _, _, _, _, _] rfl ?_
    refine SL.pure rfl rfl rfl (PureOp.and_ rfl rfl rfl rfl) ?_
    refine SL.pure rfl rfl rfl (PureOp.assign rfl) ?_
    refine SL.nil_then ?_
    refine WC.ret ?_
    refine QX.ret1 rfl rfl ?_
    intro w hw
    simp

set_option maxHeartbeats 4000000 in
set_option maxRecDepth 100000 in
theorem fees_law (u1 u2 : SliceV Unit) (fl : List Fa) (rl : List Ru) (fao rao : Option Addr) (fn fcap rn rcap : Nat) (hfn : fn = fl.length) (hrn : rn = rl.length) (w0 : World) (hf : SliceIn w0 9 fao fn fcap (rowsF enc94 fl)) (hr : SliceIn w0 15 rao rn rcap (rowsF enc92 rl)) (u3 : SliceV Unit) (u4 : SliceV Ch) (u5 u6 : Int) (pl : List Pa) (pao : Option Addr) (pn pcap : Nat) (hpn : pn = pl.length) (hp : SliceIn w0 4 pao pn pcap (rowsF enc96 pl)) : FnC Try.prog 5 [.agg #[.slice fao fn fcap, .slice rao rn rcap, .slice u1.ao u1.l.length u1.cap, .slice u2.ao u2.l.length u2.cap], .agg #[.slice pao pn pcap, .slice u3.ao u3.l.length u3.cap, .slice u4.ao u4.l.length u4.cap, .int .i64 u5, .int .i64 u6]] w0 fun v w' => v = .bool true := by
  refine fnc (N := 49) Try.func5 rfl rfl rfl ?_
  refine WC.seq ?_
  refine WC.region ?_
  refine SL.box rfl rfl rfl (fun b1 hb1 => ?_)
  refine SL.norm [_] rfl ?_
  refine SL.box rfl rfl rfl (fun b2 hb2 => ?_)
  refine SL.norm [_, _] rfl ?_
  refine SL.pure rfl rfl rfl (PureOp.assign rfl) ?_
  refine SL.nil_then ?_
  refine WC.seq ?_
  refine WC.seq ?_
  refine WC.region ?_
  refine SL.pure rfl rfl rfl (PureOp.fieldAddrT 0 Try.underlying56 rfl sz53 rfl rfl) ?_
  refine SL.pure rfl rfl rfl (PureOp.load (v := .slice pao pn pcap) Try.underlying53 rfl rfl (fun _ => (CellIs.cells 1 rfl rfl))) ?_
  refine SL.pure rfl rfl rfl (PureOp.len rfl Try.underlying53) ?_
  refine SL.pure rfl rfl rfl (PureOp.gtr rfl rfl) ?_
  refine SL.pure rfl rfl rfl (PureOp.move rfl) ?_
  refine SL.newg 13 false rfl ?_
  refine SL.gpure (c := 1) rfl rfl rfl rfl rfl rfl rfl (PureOp.fieldAddrT 0 Try.underlying52 rfl sz47 rfl rfl) ?_
  refine SL.gpure (c := 1) rfl rfl rfl rfl rfl rfl rfl (PureOp.load (v := .slice fao fn fcap) Try.underlying47 rfl rfl (fun _ => (CellIs.cells 0 rfl rfl))) ?_
  refine SL.gpure (c := 1) rfl rfl rfl rfl rfl rfl rfl (PureOp.len rfl Try.underlying47) ?_
  refine SL.gpure (c := 1) rfl rfl rfl rfl rfl rfl rfl (PureOp.gtr rfl rfl) ?_
  refine SL.pure rfl rfl rfl (PureOp.or_ rfl rfl rfl rfl) ?_
  refine SL.pure rfl rfl rfl (PureOp.move rfl) ?_
  refine SL.newg 19 false rfl ?_
  refine SL.gpure (c := 2) rfl rfl rfl rfl rfl rfl rfl (PureOp.fieldAddrT 1 Try.underlying52 rfl sz48 rfl rfl) ?_
  refine SL.gpure (c := 2) rfl rfl rfl rfl rfl rfl rfl (PureOp.load (v := .slice rao rn rcap) Try.underlying48 rfl rfl (fun _ => (CellIs.cells 0 rfl rfl))) ?_
  refine SL.gpure (c := 2) rfl rfl rfl rfl rfl rfl rfl (PureOp.len rfl Try.underlying48) ?_
  refine SL.gpure (c := 2) rfl rfl rfl rfl rfl rfl rfl (PureOp.gtr rfl rfl) ?_
  refine SL.pure rfl rfl rfl (PureOp.or_ rfl rfl rfl rfl) ?_
  refine SL.nil_then ?_
  refine WC.cond rfl (fun h1 => ?_) (fun h1 => ?_)
  · try simp only [Bool.and_eq_true, Bool.or_eq_true, Bool.not_eq_true', Bool.not_eq_false', Bool.and_eq_false_iff, Bool.or_eq_false_iff, decide_eq_true_eq, decide_eq_false_iff_not, Int.not_lt, Int.not_le, ne_eq, Decidable.not_not] at h1
    refine WC.seq ?_
    refine WC.region ?_
    refine SL.calle rfl rfl rfl rfl rfl rfl callable13 (fun w hw => knows_ok w) ?_
    refine SL.norm [_, _] rfl ?_
    refine SL.pure rfl rfl rfl (PureOp.assign rfl) ?_
    refine SL.nil_then ?_
    refine WC.ret ?_
    refine QX.ret_then ?_
    refine QX.ret1 rfl rfl ?_
    intro w hw
    rfl
  · try simp only [Bool.and_eq_true, Bool.or_eq_true, Bool.not_eq_true', Bool.not_eq_false', Bool.and_eq_false_iff, Bool.or_eq_false_iff, decide_eq_true_eq, decide_eq_false_iff_not, Int.not_lt, Int.not_le, ne_eq, Decidable.not_not] at h1
    have hfb : fn ≤ 1000 := by omega
    have hrb : rn ≤ 1000 := by omega
    have hpb : pn ≤ 1000 := by omega
    refine WC.skip ?_
    refine QX.then_ ?_
    refine WC.seq ?_
    refine WC.region ?_
    refine SL.pure rfl rfl rfl (PureOp.loads (vs := [.slice fao fn fcap, .slice rao rn rcap, .slice u1.ao u1.l.length u1.cap, .slice u2.ao u2.l.length u2.cap]) Try.underlying52 rfl rfl (fun _ => (RowIs.cells 0 0 4 rfl rfl)) sz52) ?_
    refine SL.pure rfl rfl rfl (PureOp.loads (vs := [.slice pao pn pcap, .slice u3.ao u3.l.length u3.cap, .slice u4.ao u4.l.length u4.cap, .int .i64 u5, .int .i64 u6]) Try.underlying56 rfl rfl (fun _ => (RowIs.cells 1 0 5 rfl rfl)) sz56) ?_
    refine SL.calle rfl rfl rfl rfl rfl rfl callable22 (fun w hw => fee_ok u1 u2 fl rl fao rao fn fcap rn rcap hfn hrn w (hf.below hw.below) (hr.below hw.below) hfb hrb u3 u4 u5 u6 pl pao pn pcap hpn (hp.below hw.below) hpb) ?_
    refine SL.norm [_, _] rfl ?_
    refine SL.pure rfl rfl rfl (PureOp.move rfl) ?_
    refine SL.pure rfl rfl rfl (PureOp.extract rfl rfl) ?_
    refine SL.pure rfl rfl rfl (PureOp.extract rfl rfl) ?_
    refine SL.pure rfl rfl rfl (PureOp.assign rfl) ?_
    refine SL.pure rfl rfl rfl (PureOp.assign rfl) ?_
    refine SL.nil_then ?_
    refine WC.seq ?_
    refine WC.region ?_
    refine SL.pure rfl rfl rfl (PureOp.loads (vs := [.slice fao fn fcap, .slice rao rn rcap, .slice u1.ao u1.l.length u1.cap, .slice u2.ao u2.l.length u2.cap]) Try.underlying52 rfl rfl (fun _ => (RowIs.cells 0 0 4 rfl rfl)) sz52) ?_
    refine SL.pure rfl rfl rfl (PureOp.loads (vs := [.slice pao pn pcap, .slice u3.ao u3.l.length u3.cap, .slice u4.ao u4.l.length u4.cap, .int .i64 u5, .int .i64 u6]) Try.underlying56 rfl rfl (fun _ => (RowIs.cells 1 0 5 rfl rfl)) sz56) ?_
    refine SL.calle rfl rfl rfl rfl rfl rfl callable23 (fun w hw => rfee_ok u1 u2 fl rl fao rao fn fcap rn rcap hfn hrn w (hf.below hw.below) (hr.below hw.below) hfb hrb u3 u4 u5 u6 pl pao pn pcap hpn (hp.below hw.below) hpb) ?_
    refine SL.norm [_, _] rfl ?_
    refine SL.pure rfl rfl rfl (PureOp.move rfl) ?_
    refine SL.pure rfl rfl rfl (PureOp.extract rfl rfl) ?_
    refine SL.pure rfl rfl rfl (PureOp.extract rfl rfl) ?_
    refine SL.pure rfl rfl rfl (PureOp.assign rfl) ?_
    refine SL.pure rfl rfl rfl (PureOp.assign rfl) ?_
    refine SL.nil_then ?_
    refine WC.seq ?_
    refine WC.region ?_
    refine SL.pure rfl rfl rfl (PureOp.move rfl) ?_
    refine SL.pure rfl rfl rfl (PureOp.move rfl) ?_
    refine SL.pure rfl rfl rfl (PureOp.eql rfl rfl) ?_
    refine SL.pure rfl rfl rfl (PureOp.move rfl) ?_
    refine SL.newg 41 true rfl ?_
    refine SL.gpure (c := 3) rfl rfl rfl rfl rfl rfl rfl (PureOp.move rfl) ?_
    refine SL.gpure (c := 3) rfl rfl rfl rfl rfl rfl rfl (PureOp.move rfl) ?_
    refine SL.gpure (c := 3) rfl rfl rfl rfl rfl rfl rfl (PureOp.eql rfl rfl) ?_
    refine SL.pure rfl rfl rfl (PureOp.and_ rfl rfl rfl rfl) ?_
    refine SL.pure rfl rfl rfl (PureOp.move rfl) ?_
    refine SL.newg 46 true rfl ?_
    refine SL.gcalle (c := 4) rfl rfl rfl rfl rfl rfl rfl rfl rfl rfl callable13 (by intro hg; simp [gval] at hg; exact (fun w hw => knows_ok w)) ?_
    refine SL.norm [_, _] rfl ?_
    refine SL.pure rfl rfl rfl (PureOp.and_ rfl rfl rfl rfl) ?_
    refine SL.pure rfl rfl rfl (PureOp.assign rfl) ?_
    refine SL.nil_then ?_
    refine WC.ret ?_
    refine QX.ret1 rfl rfl ?_
    intro w hw
    simp

set_option maxHeartbeats 4000000 in
set_option maxRecDepth 100000 in
theorem xfees_law (u1 u2 : SliceV Unit) (fl : List Fa) (rl : List Ru) (fao rao : Option Addr) (fn fcap rn rcap : Nat) (hfn : fn = fl.length) (hrn : rn = rl.length) (w0 : World) (hf : SliceIn w0 9 fao fn fcap (rowsF enc94 fl)) (hr : SliceIn w0 15 rao rn rcap (rowsF enc92 rl)) (u3 : SliceV Unit) (u4 : SliceV Ch) (u5 u6 : Int) (pl : List Pa) (pao : Option Addr) (pn pcap : Nat) (hpn : pn = pl.length) (hp : SliceIn w0 4 pao pn pcap (rowsF enc96 pl)) : FnC Try.prog 11 [.agg #[.slice fao fn fcap, .slice rao rn rcap, .slice u1.ao u1.l.length u1.cap, .slice u2.ao u2.l.length u2.cap], .agg #[.slice pao pn pcap, .slice u3.ao u3.l.length u3.cap, .slice u4.ao u4.l.length u4.cap, .int .i64 u5, .int .i64 u6]] w0 fun v w' => v = .bool true := by
  refine fnc (N := 49) Try.func11 rfl rfl rfl ?_
  refine WC.seq ?_
  refine WC.region ?_
  refine SL.box rfl rfl rfl (fun b1 hb1 => ?_)
  refine SL.norm [_] rfl ?_
  refine SL.box rfl rfl rfl (fun b2 hb2 => ?_)
  refine SL.norm [_, _] rfl ?_
  refine SL.pure rfl rfl rfl (PureOp.assign rfl) ?_
  refine SL.nil_then ?_
  refine WC.seq ?_
  refine WC.seq ?_
  refine WC.region ?_
  refine SL.pure rfl rfl rfl (PureOp.fieldAddrT 0 Try.underlying52 rfl sz47 rfl rfl) ?_
  refine SL.pure rfl rfl rfl (PureOp.load (v := .slice fao fn fcap) Try.underlying47 rfl rfl (fun _ => (CellIs.cells 0 rfl rfl))) ?_
  refine SL.pure rfl rfl rfl (PureOp.len rfl Try.underlying47) ?_
  refine SL.pure rfl rfl rfl (PureOp.gtr rfl rfl) ?_
  refine SL.pure rfl rfl rfl (PureOp.move rfl) ?_
  refine SL.newg 13 false rfl ?_
  refine SL.gpure (c := 1) rfl rfl rfl rfl rfl rfl rfl (PureOp.fieldAddrT 1 Try.underlying52 rfl sz48 rfl rfl) ?_
  refine SL.gpure (c := 1) rfl rfl rfl rfl rfl rfl rfl (PureOp.load (v := .slice rao rn rcap) Try.underlying48 rfl rfl (fun _ => (CellIs.cells 0 rfl rfl))) ?_
  refine SL.gpure (c := 1) rfl rfl rfl rfl rfl rfl rfl (PureOp.len rfl Try.underlying48) ?_
  refine SL.gpure (c := 1) rfl rfl rfl rfl rfl rfl rfl (PureOp.gtr rfl rfl) ?_
  refine SL.pure rfl rfl rfl (PureOp.or_ rfl rfl rfl rfl) ?_
  refine SL.pure rfl rfl rfl (PureOp.move rfl) ?_
  refine SL.newg 19 false rfl ?_
  refine SL.gpure (c := 2) rfl rfl rfl rfl rfl rfl rfl (PureOp.fieldAddrT 0 Try.underlying56 rfl sz53 rfl rfl) ?_
  refine SL.gpure (c := 2) rfl rfl rfl rfl rfl rfl rfl (PureOp.load (v := .slice pao pn pcap) Try.underlying53 rfl rfl (fun _ => (CellIs.cells 1 rfl rfl))) ?_
  refine SL.gpure (c := 2) rfl rfl rfl rfl rfl rfl rfl (PureOp.len rfl Try.underlying53) ?_
  refine SL.gpure (c := 2) rfl rfl rfl rfl rfl rfl rfl (PureOp.gtr rfl rfl) ?_
  refine SL.pure rfl rfl rfl (PureOp.or_ rfl rfl rfl rfl) ?_
  refine SL.nil_then ?_
  refine WC.cond rfl (fun h1 => ?_) (fun h1 => ?_)
  · try simp only [Bool.and_eq_true, Bool.or_eq_true, Bool.not_eq_true', Bool.not_eq_false', Bool.and_eq_false_iff, Bool.or_eq_false_iff, decide_eq_true_eq, decide_eq_false_iff_not, Int.not_lt, Int.not_le, ne_eq, Decidable.not_not] at h1
    refine WC.seq ?_
    refine WC.region ?_
    refine SL.calle rfl rfl rfl rfl rfl rfl callable25 (fun w hw => awake_ok w) ?_
    refine SL.norm [_, _] rfl ?_
    refine SL.pure rfl rfl rfl (PureOp.assign rfl) ?_
    refine SL.nil_then ?_
    refine WC.ret ?_
    refine QX.ret_then ?_
    refine QX.ret1 rfl rfl ?_
    intro w hw
    rfl
  · try simp only [Bool.and_eq_true, Bool.or_eq_true, Bool.not_eq_true', Bool.not_eq_false', Bool.and_eq_false_iff, Bool.or_eq_false_iff, decide_eq_true_eq, decide_eq_false_iff_not, Int.not_lt, Int.not_le, ne_eq, Decidable.not_not] at h1
    have hfb : fn ≤ 1000 := by omega
    have hrb : rn ≤ 1000 := by omega
    have hpb : pn ≤ 1000 := by omega
    refine WC.skip ?_
    refine QX.then_ ?_
    refine WC.seq ?_
    refine WC.region ?_
    refine SL.pure rfl rfl rfl (PureOp.loads (vs := [.slice fao fn fcap, .slice rao rn rcap, .slice u1.ao u1.l.length u1.cap, .slice u2.ao u2.l.length u2.cap]) Try.underlying52 rfl rfl (fun _ => (RowIs.cells 0 0 4 rfl rfl)) sz52) ?_
    refine SL.pure rfl rfl rfl (PureOp.loads (vs := [.slice pao pn pcap, .slice u3.ao u3.l.length u3.cap, .slice u4.ao u4.l.length u4.cap, .int .i64 u5, .int .i64 u6]) Try.underlying56 rfl rfl (fun _ => (RowIs.cells 1 0 5 rfl rfl)) sz56) ?_
    refine SL.calle rfl rfl rfl rfl rfl rfl callable32 (fun w hw => xfee_ok u1 u2 fl rl fao rao fn fcap rn rcap hfn hrn w (hf.below hw.below) (hr.below hw.below) hfb hrb u3 u4 u5 u6 pl pao pn pcap hpn (hp.below hw.below) hpb) ?_
    refine SL.norm [_, _] rfl ?_
    refine SL.pure rfl rfl rfl (PureOp.move rfl) ?_
    refine SL.pure rfl rfl rfl (PureOp.extract rfl rfl) ?_
    refine SL.pure rfl rfl rfl (PureOp.extract rfl rfl) ?_
    refine SL.pure rfl rfl rfl (PureOp.assign rfl) ?_
    refine SL.pure rfl rfl rfl (PureOp.assign rfl) ?_
    refine SL.nil_then ?_
    refine WC.seq ?_
    refine WC.region ?_
    refine SL.pure rfl rfl rfl (PureOp.loads (vs := [.slice fao fn fcap, .slice rao rn rcap, .slice u1.ao u1.l.length u1.cap, .slice u2.ao u2.l.length u2.cap]) Try.underlying52 rfl rfl (fun _ => (RowIs.cells 0 0 4 rfl rfl)) sz52) ?_
    refine SL.pure rfl rfl rfl (PureOp.loads (vs := [.slice pao pn pcap, .slice u3.ao u3.l.length u3.cap, .slice u4.ao u4.l.length u4.cap, .int .i64 u5, .int .i64 u6]) Try.underlying56 rfl rfl (fun _ => (RowIs.cells 1 0 5 rfl rfl)) sz56) ?_
    refine SL.calle rfl rfl rfl rfl rfl rfl callable33 (fun w hw => rxfee_ok u1 u2 fl rl fao rao fn fcap rn rcap hfn hrn w (hf.below hw.below) (hr.below hw.below) hfb hrb u3 u4 u5 u6 pl pao pn pcap hpn (hp.below hw.below) hpb) ?_
    refine SL.norm [_, _] rfl ?_
    refine SL.pure rfl rfl rfl (PureOp.move rfl) ?_
    refine SL.pure rfl rfl rfl (PureOp.extract rfl rfl) ?_
    refine SL.pure rfl rfl rfl (PureOp.extract rfl rfl) ?_
    refine SL.pure rfl rfl rfl (PureOp.assign rfl) ?_
    refine SL.pure rfl rfl rfl (PureOp.assign rfl) ?_
    refine SL.nil_then ?_
    refine WC.seq ?_
    refine WC.region ?_
    refine SL.pure rfl rfl rfl (PureOp.move rfl) ?_
    refine SL.pure rfl rfl rfl (PureOp.move rfl) ?_
    refine SL.pure rfl rfl rfl (PureOp.eql rfl rfl) ?_
    refine SL.pure rfl rfl rfl (PureOp.move rfl) ?_
    refine SL.newg 41 true rfl ?_
    refine SL.gpure (c := 3) rfl rfl rfl rfl rfl rfl rfl (PureOp.move rfl) ?_
    refine SL.gpure (c := 3) rfl rfl rfl rfl rfl rfl rfl (PureOp.move rfl) ?_
    refine SL.gpure (c := 3) rfl rfl rfl rfl rfl rfl rfl (PureOp.eql rfl rfl) ?_
    refine SL.pure rfl rfl rfl (PureOp.and_ rfl rfl rfl rfl) ?_
    refine SL.pure rfl rfl rfl (PureOp.move rfl) ?_
    refine SL.newg 46 true rfl ?_
    refine SL.gcalle (c := 4) rfl rfl rfl rfl rfl rfl rfl rfl rfl rfl callable25 (by intro hg; simp [gval] at hg; exact (fun w hw => awake_ok w)) ?_
    refine SL.norm [_, _] rfl ?_
    refine SL.pure rfl rfl rfl (PureOp.and_ rfl rfl rfl rfl) ?_
    refine SL.pure rfl rfl rfl (PureOp.assign rfl) ?_
    refine SL.nil_then ?_
    refine WC.ret ?_
    refine QX.ret1 rfl rfl ?_
    intro w hw
    simp

end Go.Proofs.Ytipmdakhmpaemaa
