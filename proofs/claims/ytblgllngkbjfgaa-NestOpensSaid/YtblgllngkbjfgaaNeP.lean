import Derived.Test.YtblgllngkbjfgaaNeO
namespace Go.Proofs.Ytblgllngkbjfgaa
open Go Go.RowKit Eng
set_option linter.unusedVariables false
set_option linter.unusedSimpArgs false

theorem open_le {se ov : Int} {cl : List Cl} {l : List Int} : (openL (se + ov) cl l).length ≤ l.length := by
  unfold openL
  split
  · rw [tab_len]; exact Nat.le_refl _
  · simp
set_option maxHeartbeats 4000000 in
set_option maxRecDepth 100000 in
theorem opens_law (nm : ByteArray) (se ov : Int) (cl : List Cl) (ac : Option Addr) (cc : Nat) (hnm : nm.size ≤ maxLen) (hcs : ∀ i, i < cl.length → (nth cl i).1.size ≤ maxLen) (l : List Int) (ao : Option Addr) (n cap : Nat) (hn : n = l.length) (w0 : World) (hc : SliceIn w0 2 ac cl.length cc (rowsF enc47 cl)) (hs : SliceIn w0 1 ao n cap (rowsF encI l)) : FnC Try.prog 3 [.agg #[.string nm, .int .i64 se, .int .i64 ov, .slice ac cl.length cc], .slice ao n cap] w0 fun v w' => v = .bool true := by
  refine fnc (N := 38) Try.func3 rfl rfl rfl ?_
  refine WC.seq ?_
  refine WC.region ?_
  refine SL.box rfl rfl rfl (fun b1 hb1 => ?_)
  refine SL.pure rfl rfl rfl (PureOp.assign rfl) ?_
  refine SL.nil_then ?_
  refine WC.seq ?_
  refine WC.seq ?_
  refine WC.region ?_
  refine SL.pure rfl rfl rfl (PureOp.loads (vs := [.string nm, .int .i64 se, .int .i64 ov, .slice ac cl.length cc]) Try.underlying24 rfl rfl (fun _ => (RowIs.cells 0 0 4 rfl rfl)) sz24) ?_
  refine SL.pure rfl rfl rfl (PureOp.move rfl) ?_
  refine SL.callv rfl rfl rfl rfl rfl rfl callable8 (fun w hw => lright_ok nm se ov cl ac cc hnm hcs l ao n cap w (hc.below hw.below)) ?_
  rintro v ⟨rb, rfl, hrb⟩
  refine SL.pure rfl rfl rfl (PureOp.not rfl) ?_
  refine SL.nil_then ?_
  refine WC.cond rfl (fun h1 => ?_) (fun h1 => ?_)
  · try simp only [Bool.and_eq_true, Bool.or_eq_true, Bool.not_eq_true', Bool.not_eq_false', Bool.and_eq_false_iff, Bool.or_eq_false_iff, decide_eq_true_eq, decide_eq_false_iff_not, Int.not_lt, Int.not_le, ne_eq, Decidable.not_not] at h1
    refine WC.seq ?_
    refine WC.region ?_
    refine SL.calle rfl rfl rfl rfl rfl rfl callable9 (fun w hw => awake_ok w) ?_
    refine SL.pure rfl rfl rfl (PureOp.assign rfl) ?_
    refine SL.nil_then ?_
    refine WC.ret ?_
    refine QX.ret_then ?_
    refine QX.ret1 rfl rfl ?_
    intro w hw
    rfl
  · try simp only [Bool.and_eq_true, Bool.or_eq_true, Bool.not_eq_true', Bool.not_eq_false', Bool.and_eq_false_iff, Bool.or_eq_false_iff, decide_eq_true_eq, decide_eq_false_iff_not, Int.not_lt, Int.not_le, ne_eq, Decidable.not_not] at h1
    obtain ⟨hcb, hnb, hR⟩ := hrb h1
    refine WC.skip ?_
    refine QX.then_ ?_
    refine WC.seq ?_
    refine WC.drawH 29 [false, false, false, false, false, false, false, false, false, false, false, false, false, false, false, false, false, false, false, false, false, false, false, false, false, false, false, false, false] rfl rfl rfl ?_
    refine SD.take 0 [true, false, false, false, false, false, false, false, false, false, false, false, false, false, false, false, false, false, false, false, false, false, false, false, false, false, false, false, false] rfl (by kernel_rfl) rfl (fun _ h => h) rfl rfl rfl (PureOp.loads (vs := [.string nm, .int .i64 se, .int .i64 ov, .slice ac cl.length cc]) Try.underlying24 rfl rfl (fun _ => (RowIs.cells 0 0 4 rfl rfl)) sz24) ?_
    refine SD.take 1 [true, true, false, false, false, false, false, false, false, false, false, false, false, false, false, false, false, false, false, false, false, false, false, false, false, false, false, false, false] rfl (by kernel_rfl) rfl (fun _ h => h) rfl rfl rfl (PureOp.move rfl) ?_
    refine SD.take 3 [true, true, false, true, false, false, false, false, false, false, false, false, false, false, false, false, false, false, false, false, false, false, false, false, false, false, false, false, false] rfl (by kernel_rfl) rfl (fun _ h => h) rfl rfl rfl (PureOp.loads (vs := [.string nm, .int .i64 se, .int .i64 ov, .slice ac cl.length cc]) Try.underlying24 rfl rfl (fun _ => (RowIs.cells 0 0 4 rfl rfl)) sz24) ?_
    refine SD.take 4 [true, true, false, true, true, false, false, false, false, false, false, false, false, false, false, false, false, false, false, false, false, false, false, false, false, false, false, false, false] rfl (by kernel_rfl) rfl (fun _ h => h) rfl rfl rfl (PureOp.move rfl) ?_
    refine SD.one 2 [true, true, true, true, true, false, false, false, false, false, false, false, false, false, false, false, false, false, false, false, false, false, false, false, false, false, false, false, false] (by kernel_rfl) rfl rfl ?_
    refine SL.callo (fun pa pc => .slice pa ((openL (se + ov) cl l).length) pc) rfl rfl rfl rfl rfl rfl callable11 (fun w hw => open_ok nm se ov cl ac cl.length cc rfl hcb l ao n cap hn (by omega) w (hs.below hw.below) (hc.below hw.below) hR) (fun pa pc => ?_)
    refine SD.back (fun _ h => HeapOk.take h 1) ?_
    refine SD.one 5 [true, true, true, true, true, true, false, false, false, false, false, false, false, false, false, false, false, false, false, false, false, false, false, false, false, false, false, false, false] (by kernel_rfl) rfl rfl ?_
    refine SL.callo (fun ra rc => .slice ra ((openL (se + ov) cl l).length) rc) rfl rfl rfl rfl rfl rfl callable12 (fun w hw => ropen_ok nm se ov cl ac cl.length cc rfl hcb l ao n cap hn (by omega) w (hs.below hw.below) (hc.below hw.below) hR) (fun ra rc => ?_)
    refine SD.back (fun _ h => HeapOk.take h 1) ?_
    refine SD.one 6 [true, true, true, true, true, true, true, false, false, false, false, false, false, false, false, false, false, false, false, false, false, false, false, false, false, false, false, false, false] (by kernel_rfl) rfl rfl ?_
    refine SL.calle rfl rfl rfl rfl rfl rfl callable10 (fun w hw => same_ok (openL (se + ov) cl l) _ _ _ _ _ _ rfl rfl w (SliceIn.rows (hw.mem (i := 1) rfl) encI_len (Nat.le_refl _)) (SliceIn.rows (hw.mem (i := 2) rfl) encI_len (Nat.le_refl _)) (by (have q := open_le (se := se) (ov := ov) (cl := cl) (l := l); omega))) ?_
    refine SD.back (fun _ h => HeapOk.take h 1) ?_
    refine SD.take 7 [true, true, true, true, true, true, true, true, false, false, false, false, false, false, false, false, false, false, false, false, false, false, false, false, false, false, false, false, false] rfl (by kernel_rfl) rfl (fun _ h => HeapOk.take h 1) rfl rfl rfl (PureOp.move rfl) ?_
    refine SD.takeon 8 [true, true, true, true, true, true, true, true, true, false, false, false, false, false, false, false, false, false, false, false, false, false, false, false, false, false, false, false, false] rfl (by kernel_rfl) rfl (fun _ h => HeapOk.take h 1) rfl rfl rfl rfl rfl rfl rfl (PureOp.loads (vs := [.string nm, .int .i64 se, .int .i64 ov, .slice ac cl.length cc]) Try.underlying24 rfl rfl (fun _ => (RowIs.cells 0 0 4 rfl rfl)) sz24) ?_
    refine SD.takeon 9 [true, true, true, true, true, true, true, true, true, true, false, false, false, false, false, false, false, false, false, false, false, false, false, false, false, false, false, false, false] rfl (by kernel_rfl) rfl (fun _ h => HeapOk.take h 1) rfl rfl rfl rfl rfl rfl rfl (PureOp.move rfl) ?_
    refine SD.takeon 11 [true, true, true, true, true, true, true, true, true, true, false, true, false, false, false, false, false, false, false, false, false, false, false, false, false, false, false, false, false] rfl (by kernel_rfl) rfl (fun _ h => HeapOk.take h 1) rfl rfl rfl rfl rfl rfl rfl (PureOp.loads (vs := [.string nm, .int .i64 se, .int .i64 ov, .slice ac cl.length cc]) Try.underlying24 rfl rfl (fun _ => (RowIs.cells 0 0 4 rfl rfl)) sz24) ?_
    refine SD.takeon 12 [true, true, true, true, true, true, true, true, true, true, false, true, true, false, false, false, false, false, false, false, false, false, false, false, false, false, false, false, false] rfl (by kernel_rfl) rfl (fun _ h => HeapOk.take h 1) rfl rfl rfl rfl rfl rfl rfl (PureOp.move rfl) ?_
    refine SD.one 10 [true, true, true, true, true, true, true, true, true, true, true, true, true, false, false, false, false, false, false, false, false, false, false, false, false, false, false, false, false] (by kernel_rfl) rfl rfl ?_
    refine SL.ung rfl rfl rfl rfl ?_
    refine SL.calle rfl rfl rfl rfl rfl rfl callable13 (fun w hw => fits_ok nm se ov cl ac cl.length cc rfl hcb l ao n cap hn (by omega) w (hs.below hw.below) (hc.below hw.below) hR) ?_
    refine SD.back (fun _ h => HeapOk.take h 1) ?_
    refine SD.one 13 [true, true, true, true, true, true, true, true, true, true, true, true, true, true, false, false, false, false, false, false, false, false, false, false, false, false, false, false, false] (by kernel_rfl) rfl rfl ?_
    refine SL.ung rfl rfl rfl rfl ?_
    refine SL.calle rfl rfl rfl rfl rfl rfl callable14 (fun w hw => rfits_ok nm se ov cl ac cl.length cc rfl hcb l ao n cap hn (by omega) w (hs.below hw.below) (hc.below hw.below) hR) ?_
    refine SD.back (fun _ h => HeapOk.take h 1) ?_
    refine SD.takeon 14 [true, true, true, true, true, true, true, true, true, true, true, true, true, true, true, false, false, false, false, false, false, false, false, false, false, false, false, false, false] rfl (by kernel_rfl) rfl (fun _ h => HeapOk.take h 1) rfl rfl rfl rfl rfl rfl rfl (PureOp.eqlb rfl rfl Try.underlying4) ?_
    refine SD.lit 24 true rfl (by simp) ?_
    refine SD.take 15 [true, true, true, true, true, true, true, true, true, true, true, true, true, true, true, true, false, false, false, false, false, false, false, false, false, false, false, false, false] rfl (by kernel_rfl) rfl (fun _ h => HeapOk.take h 1) rfl rfl rfl (PureOp.pickT rfl rfl) ?_
    refine SD.take 16 [true, true, true, true, true, true, true, true, true, true, true, true, true, true, true, true, true, false, false, false, false, false, false, false, false, false, false, false, false] rfl (by kernel_rfl) rfl (fun _ h => HeapOk.take h 1) rfl rfl rfl (PureOp.move rfl) ?_
    refine SD.takeon 17 [true, true, true, true, true, true, true, true, true, true, true, true, true, true, true, true, true, true, false, false, false, false, false, false, false, false, false, false, false] rfl (by kernel_rfl) rfl (fun _ h => HeapOk.take h 1) rfl rfl rfl rfl rfl rfl rfl (PureOp.loads (vs := [.string nm, .int .i64 se, .int .i64 ov, .slice ac cl.length cc]) Try.underlying24 rfl rfl (fun _ => (RowIs.cells 0 0 4 rfl rfl)) sz24) ?_
    refine SD.takeon 18 [true, true, true, true, true, true, true, true, true, true, true, true, true, true, true, true, true, true, true, false, false, false, false, false, false, false, false, false, false] rfl (by kernel_rfl) rfl (fun _ h => HeapOk.take h 1) rfl rfl rfl rfl rfl rfl rfl (PureOp.move rfl) ?_
    refine SD.takeon 20 [true, true, true, true, true, true, true, true, true, true, true, true, true, true, true, true, true, true, true, false, true, false, false, false, false, false, false, false, false] rfl (by kernel_rfl) rfl (fun _ h => HeapOk.take h 1) rfl rfl rfl rfl rfl rfl rfl (PureOp.loads (vs := [.string nm, .int .i64 se, .int .i64 ov, .slice ac cl.length cc]) Try.underlying24 rfl rfl (fun _ => (RowIs.cells 0 0 4 rfl rfl)) sz24) ?_
    refine SD.takeon 21 [true, true, true, true, true, true, true, true, true, true, true, true, true, true, true, true, true, true, true, false, true, true, false, false, false, false, false, false, false] rfl (by kernel_rfl) rfl (fun _ h => HeapOk.take h 1) rfl rfl rfl rfl rfl rfl rfl (PureOp.move rfl) ?_
    refine SD.one 19 [true, true, true, true, true, true, true, true, true, true, true, true, true, true, true, true, true, true, true, true, true, true, false, false, false, false, false, false, false] (by kernel_rfl) rfl rfl ?_
    refine SL.ung rfl rfl rfl rfl ?_
    refine SL.calle rfl rfl rfl rfl rfl rfl callable15 (fun w hw => excess_ok nm se ov cl ac cl.length cc rfl hcb l ao n cap hn (by omega) w (hs.below hw.below) (hc.below hw.below) hR) ?_
    refine SD.back (fun _ h => HeapOk.take h 1) ?_
    refine SD.one 22 [true, true, true, true, true, true, true, true, true, true, true, true, true, true, true, true, true, true, true, true, true, true, true, false, false, false, false, false, false] (by kernel_rfl) rfl rfl ?_
    refine SL.ung rfl rfl rfl rfl ?_
    refine SL.calle rfl rfl rfl rfl rfl rfl callable16 (fun w hw => rexcess_ok nm se ov cl ac cl.length cc rfl hcb l ao n cap hn (by omega) w (hs.below hw.below) (hc.below hw.below) hR) ?_
    refine SD.back (fun _ h => HeapOk.take h 1) ?_
    refine SD.takeon 23 [true, true, true, true, true, true, true, true, true, true, true, true, true, true, true, true, true, true, true, true, true, true, true, true, false, false, false, false, false] rfl (by kernel_rfl) rfl (fun _ h => HeapOk.take h 1) rfl rfl rfl rfl rfl rfl rfl (PureOp.eql rfl rfl) ?_
    refine SD.lit 33 true rfl (by simp) ?_
    refine SD.take 24 [true, true, true, true, true, true, true, true, true, true, true, true, true, true, true, true, true, true, true, true, true, true, true, true, true, false, false, false, false] rfl (by kernel_rfl) rfl (fun _ h => HeapOk.take h 1) rfl rfl rfl (PureOp.pickT rfl rfl) ?_
    refine SD.take 25 [true, true, true, true, true, true, true, true, true, true, true, true, true, true, true, true, true, true, true, true, true, true, true, true, true, true, false, false, false] rfl (by kernel_rfl) rfl (fun _ h => HeapOk.take h 1) rfl rfl rfl (PureOp.move rfl) ?_
    refine SD.one 26 [true, true, true, true, true, true, true, true, true, true, true, true, true, true, true, true, true, true, true, true, true, true, true, true, true, true, true, false, false] (by kernel_rfl) rfl rfl ?_
    refine SL.ung rfl rfl rfl rfl ?_
    refine SL.calle rfl rfl rfl rfl rfl rfl callable9 (fun w hw => awake_ok w) ?_
    refine SD.back (fun _ h => HeapOk.take h 1) ?_
    refine SD.take 27 [true, true, true, true, true, true, true, true, true, true, true, true, true, true, true, true, true, true, true, true, true, true, true, true, true, true, true, true, false] rfl (by kernel_rfl) rfl (fun _ h => HeapOk.take h 1) rfl rfl rfl (PureOp.pickT rfl rfl) ?_
    refine SD.take 28 [true, true, true, true, true, true, true, true, true, true, true, true, true, true, true, true, true, true, true, true, true, true, true, true, true, true, true, true, true] rfl (by kernel_rfl) rfl (fun _ h => HeapOk.take h 1) rfl rfl rfl (PureOp.assign rfl) ?_
    refine SD.done (by kernel_rfl) ?_
    refine QX.ofK ?_
    refine QX.then_ ?_
    refine WC.ret ?_
    refine QX.ret1 rfl rfl ?_
    intro w hw
    rfl

set_option maxHeartbeats 4000000 in
set_option maxRecDepth 100000 in
theorem sells_law (nm : ByteArray) (se ov : Int) (cl : List Cl) (ac : Option Addr) (cc : Nat) (hnm : nm.size ≤ maxLen) (hcs : ∀ i, i < cl.length → (nth cl i).1.size ≤ maxLen) (l : List Int) (ao : Option Addr) (n cap : Nat) (hn : n = l.length) (w0 : World) (hc : SliceIn w0 2 ac cl.length cc (rowsF enc47 cl)) (hs : SliceIn w0 1 ao n cap (rowsF encI l)) (r x : Int) (hr64 : -9223372036854775808 ≤ r ∧ r ≤ 9223372036854775807) (hx : -9223372036854775808 ≤ x ∧ x ≤ 9223372036854775807) : FnC Try.prog 4 [.agg #[.string nm, .int .i64 se, .int .i64 ov, .slice ac cl.length cc], .slice ao n cap, .agg #[.int .i64 r, .int .i64 x]] w0 fun v w' => v = .bool true := by
  refine fnc (N := 81) Try.func4 rfl rfl rfl ?_
  refine WC.seq ?_
  refine WC.region ?_
  refine SL.box rfl rfl rfl (fun b1 hb1 => ?_)
  refine SL.box rfl rfl rfl (fun b2 hb2 => ?_)
  refine SL.pure rfl rfl rfl (PureOp.assign rfl) ?_
  refine SL.nil_then ?_
  refine WC.seq ?_
  refine WC.seq ?_
  refine WC.region ?_
  refine SL.pure rfl rfl rfl (PureOp.loads (vs := [.string nm, .int .i64 se, .int .i64 ov, .slice ac cl.length cc]) Try.underlying24 rfl rfl (fun _ => (RowIs.cells 0 0 4 rfl rfl)) sz24) ?_
  refine SL.pure rfl rfl rfl (PureOp.move rfl) ?_
  refine SL.callv rfl rfl rfl rfl rfl rfl callable8 (fun w hw => lright_ok nm se ov cl ac cc hnm hcs l ao n cap w (hc.below hw.below)) ?_
  rintro v ⟨rb, rfl, hrb⟩
  refine SL.pure rfl rfl rfl (PureOp.not rfl) ?_
  refine SL.nil_then ?_
  refine WC.cond rfl (fun h1 => ?_) (fun h1 => ?_)
  · try simp only [Bool.and_eq_true, Bool.or_eq_true, Bool.not_eq_true', Bool.not_eq_false', Bool.and_eq_false_iff, Bool.or_eq_false_iff, decide_eq_true_eq, decide_eq_false_iff_not, Int.not_lt, Int.not_le, ne_eq, Decidable.not_not] at h1
    refine WC.seq ?_
    refine WC.region ?_
    refine SL.calle rfl rfl rfl rfl rfl rfl callable9 (fun w hw => awake_ok w) ?_
    refine SL.pure rfl rfl rfl (PureOp.assign rfl) ?_
    refine SL.nil_then ?_
    refine WC.ret ?_
    refine QX.ret_then ?_
    refine QX.ret1 rfl rfl ?_
    intro w hw
    rfl
  · try simp only [Bool.and_eq_true, Bool.or_eq_true, Bool.not_eq_true', Bool.not_eq_false', Bool.and_eq_false_iff, Bool.or_eq_false_iff, decide_eq_true_eq, decide_eq_false_iff_not, Int.not_lt, Int.not_le, ne_eq, Decidable.not_not] at h1
    obtain ⟨hcb, hnb, hR⟩ := hrb h1
    refine WC.skip ?_
    refine QX.then_ ?_
    refine WC.seq ?_
    refine WC.region ?_
    refine SL.pure rfl rfl rfl (PureOp.loads (vs := [.string nm, .int .i64 se, .int .i64 ov, .slice ac cl.length cc]) Try.underlying24 rfl rfl (fun _ => (RowIs.cells 0 0 4 rfl rfl)) sz24) ?_
    refine SL.pure rfl rfl rfl (PureOp.move rfl) ?_
    refine SL.pure rfl rfl rfl (PureOp.indexAddrA Try.underlying31 sz3 rfl rfl (fun _ => by decide)) ?_
    refine SL.pure rfl rfl rfl (PureOp.load (v := .int .i64 r) Try.underlying3 rfl rfl (fun _ => (CellIs.cells 1 rfl rfl))) ?_
    refine SL.pure rfl rfl rfl (PureOp.indexAddrA Try.underlying31 sz3 rfl rfl (fun _ => by decide)) ?_
    refine SL.pure rfl rfl rfl (PureOp.load (v := .int .i64 x) Try.underlying3 rfl rfl (fun _ => (CellIs.cells 1 rfl rfl))) ?_
    refine SL.callo (fun sa sc => .tuple #[.slice sa ((sellL (se + ov) cl l r x).length) sc, .int .i64 (sellE (se + ov) cl l r x)]) rfl rfl rfl rfl rfl rfl callable17 (fun w hw => Sell_ok nm se ov cl ac cl.length cc rfl hcb l ao n cap hn (by omega) w (hs.below hw.below) (hc.below hw.below) hR r x hx) (fun sa sc => ?_)
    refine SL.pure rfl rfl rfl (PureOp.move rfl) ?_
    refine SL.pure rfl rfl rfl (PureOp.extract rfl rfl) ?_
    refine SL.pure rfl rfl rfl (PureOp.extract rfl rfl) ?_
    refine SL.pure rfl rfl rfl (PureOp.assign rfl) ?_
    refine SL.pure rfl rfl rfl (PureOp.assign rfl) ?_
    refine SL.nil_then ?_
    refine WC.seq ?_
    refine WC.region ?_
    refine SL.pure rfl rfl rfl (PureOp.loads (vs := [.string nm, .int .i64 se, .int .i64 ov, .slice ac cl.length cc]) Try.underlying24 rfl rfl (fun _ => (RowIs.cells 0 0 4 rfl rfl)) sz24) ?_
    refine SL.pure rfl rfl rfl (PureOp.move rfl) ?_
    refine SL.pure rfl rfl rfl (PureOp.indexAddrA Try.underlying31 sz3 rfl rfl (fun _ => by decide)) ?_
    refine SL.pure rfl rfl rfl (PureOp.load (v := .int .i64 r) Try.underlying3 rfl rfl (fun _ => (CellIs.cells 1 rfl rfl))) ?_
    refine SL.pure rfl rfl rfl (PureOp.indexAddrA Try.underlying31 sz3 rfl rfl (fun _ => by decide)) ?_
    refine SL.pure rfl rfl rfl (PureOp.load (v := .int .i64 x) Try.underlying3 rfl rfl (fun _ => (CellIs.cells 1 rfl rfl))) ?_
    refine SL.callo (fun ta tc => .tuple #[.slice ta ((sellL (se + ov) cl l r x).length) tc, .int .i64 (sellE (se + ov) cl l r x)]) rfl rfl rfl rfl rfl rfl callable18 (fun w hw => RSell_ok nm se ov cl ac cl.length cc rfl hcb l ao n cap hn (by omega) w (hs.below hw.below) (hc.below hw.below) hR r x hx) (fun ta tc => ?_)
    refine SL.pure rfl rfl rfl (PureOp.move rfl) ?_
    refine SL.pure rfl rfl rfl (PureOp.extract rfl rfl) ?_
    refine SL.pure rfl rfl rfl (PureOp.extract rfl rfl) ?_
    refine SL.pure rfl rfl rfl (PureOp.assign rfl) ?_
    refine SL.pure rfl rfl rfl (PureOp.assign rfl) ?_
    refine SL.nil_then ?_
    refine WC.seq ?_
    refine WC.region ?_
    refine SL.pure rfl rfl rfl (PureOp.loads (vs := [.string nm, .int .i64 se, .int .i64 ov, .slice ac cl.length cc]) Try.underlying24 rfl rfl (fun _ => (RowIs.cells 0 0 4 rfl rfl)) sz24) ?_
    refine SL.pure rfl rfl rfl (PureOp.move rfl) ?_
    refine SL.pure rfl rfl rfl (PureOp.indexAddrA Try.underlying31 sz3 rfl rfl (fun _ => by decide)) ?_
    refine SL.pure rfl rfl rfl (PureOp.load (v := .int .i64 r) Try.underlying3 rfl rfl (fun _ => (CellIs.cells 1 rfl rfl))) ?_
    refine SL.pure rfl rfl rfl (PureOp.indexAddrA Try.underlying31 sz3 rfl rfl (fun _ => by decide)) ?_
    refine SL.pure rfl rfl rfl (PureOp.load (v := .int .i64 x) Try.underlying3 rfl rfl (fun _ => (CellIs.cells 1 rfl rfl))) ?_
    refine SL.callo (fun ua uc => .tuple #[.slice ua ((cancL cl l r x).length) uc, .int .i64 (cancE cl l r x)]) rfl rfl rfl rfl rfl rfl callable19 (fun w hw => Cancel_ok nm se ov cl ac cl.length cc rfl hcb l ao n cap hn (by omega) w (hs.below hw.below) (hc.below hw.below) hR r x hx) (fun ua uc => ?_)
    refine SL.pure rfl rfl rfl (PureOp.move rfl) ?_
    refine SL.pure rfl rfl rfl (PureOp.extract rfl rfl) ?_
    refine SL.pure rfl rfl rfl (PureOp.extract rfl rfl) ?_
    refine SL.pure rfl rfl rfl (PureOp.assign rfl) ?_
    refine SL.pure rfl rfl rfl (PureOp.assign rfl) ?_
    refine SL.nil_then ?_
    refine WC.seq ?_
    refine WC.region ?_
    refine SL.pure rfl rfl rfl (PureOp.loads (vs := [.string nm, .int .i64 se, .int .i64 ov, .slice ac cl.length cc]) Try.underlying24 rfl rfl (fun _ => (RowIs.cells 0 0 4 rfl rfl)) sz24) ?_
    refine SL.pure rfl rfl rfl (PureOp.move rfl) ?_
    refine SL.pure rfl rfl rfl (PureOp.indexAddrA Try.underlying31 sz3 rfl rfl (fun _ => by decide)) ?_
    refine SL.pure rfl rfl rfl (PureOp.load (v := .int .i64 r) Try.underlying3 rfl rfl (fun _ => (CellIs.cells 1 rfl rfl))) ?_
    refine SL.pure rfl rfl rfl (PureOp.indexAddrA Try.underlying31 sz3 rfl rfl (fun _ => by decide)) ?_
    refine SL.pure rfl rfl rfl (PureOp.load (v := .int .i64 x) Try.underlying3 rfl rfl (fun _ => (CellIs.cells 1 rfl rfl))) ?_
    refine SL.callo (fun va vc => .tuple #[.slice va ((cancL cl l r x).length) vc, .int .i64 (cancE cl l r x)]) rfl rfl rfl rfl rfl rfl callable20 (fun w hw => RCancel_ok nm se ov cl ac cl.length cc rfl hcb l ao n cap hn (by omega) w (hs.below hw.below) (hc.below hw.below) hR r x hx) (fun va vc => ?_)
    refine SL.pure rfl rfl rfl (PureOp.move rfl) ?_
    refine SL.pure rfl rfl rfl (PureOp.extract rfl rfl) ?_
    refine SL.pure rfl rfl rfl (PureOp.extract rfl rfl) ?_
    refine SL.pure rfl rfl rfl (PureOp.assign rfl) ?_
    refine SL.pure rfl rfl rfl (PureOp.assign rfl) ?_
    refine SL.nil_then ?_
    refine WC.seq ?_
    refine WC.region ?_
    refine SL.pure rfl rfl rfl (PureOp.move rfl) ?_
    refine SL.pure rfl rfl rfl (PureOp.move rfl) ?_
    refine SL.calle rfl rfl rfl rfl rfl rfl callable10 (fun w hw => same_ok (sellL (se + ov) cl l r x) _ _ _ _ _ _ rfl rfl w (SliceIn.rows (hw.mem (i := 2) rfl) encI_len (Nat.le_refl _)) (SliceIn.rows (hw.mem (i := 3) rfl) encI_len (Nat.le_refl _)) (by have q1 := sellL_len (se := se) (ov := ov) (cl := cl) (l := l) (r := r) (x := x); have q2 := cancL_len (cl := cl) (l := l) (r := r) (x := x); omega)) ?_
    refine SL.pure rfl rfl rfl (PureOp.move rfl) ?_
    refine SL.ung rfl rfl rfl rfl ?_
    refine SL.pure rfl rfl rfl (PureOp.move rfl) ?_
    refine SL.ung rfl rfl rfl rfl ?_
    refine SL.pure rfl rfl rfl (PureOp.move rfl) ?_
    refine SL.ung rfl rfl rfl rfl ?_
    refine SL.pure rfl rfl rfl (PureOp.eql rfl rfl) ?_
    refine SL.lit 66 true rfl (by simp) ?_
    refine SL.pure rfl rfl rfl (PureOp.pickT rfl rfl) ?_
    refine SL.pure rfl rfl rfl (PureOp.move rfl) ?_
    refine SL.ung rfl rfl rfl rfl ?_
    refine SL.pure rfl rfl rfl (PureOp.move rfl) ?_
    refine SL.ung rfl rfl rfl rfl ?_
    refine SL.pure rfl rfl rfl (PureOp.move rfl) ?_
    refine SL.ung rfl rfl rfl rfl ?_
    refine SL.calle rfl rfl rfl rfl rfl rfl callable10 (fun w hw => same_ok (cancL cl l r x) _ _ _ _ _ _ rfl rfl w (SliceIn.rows (hw.mem (i := 4) rfl) encI_len (Nat.le_refl _)) (SliceIn.rows (hw.mem (i := 5) rfl) encI_len (Nat.le_refl _)) (by have q1 := sellL_len (se := se) (ov := ov) (cl := cl) (l := l) (r := r) (x := x); have q2 := cancL_len (cl := cl) (l := l) (r := r) (x := x); omega)) ?_
    refine SL.pure rfl rfl rfl (PureOp.pickT rfl rfl) ?_
    refine SL.pure rfl rfl rfl (PureOp.move rfl) ?_
    refine SL.ung rfl rfl rfl rfl ?_
    refine SL.pure rfl rfl rfl (PureOp.move rfl) ?_
    refine SL.ung rfl rfl rfl rfl ?_
    refine SL.pure rfl rfl rfl (PureOp.move rfl) ?_
    refine SL.ung rfl rfl rfl rfl ?_
    refine SL.pure rfl rfl rfl (PureOp.eql rfl rfl) ?_
    refine SL.lit 76 true rfl (by simp) ?_
    refine SL.pure rfl rfl rfl (PureOp.pickT rfl rfl) ?_
    refine SL.pure rfl rfl rfl (PureOp.move rfl) ?_
    refine SL.ung rfl rfl rfl rfl ?_
    refine SL.calle rfl rfl rfl rfl rfl rfl callable9 (fun w hw => awake_ok w) ?_
    refine SL.pure rfl rfl rfl (PureOp.pickT rfl rfl) ?_
    refine SL.pure rfl rfl rfl (PureOp.assign rfl) ?_
    refine SL.nil_then ?_
    refine WC.ret ?_
    refine QX.ret1 rfl rfl ?_
    intro w hw
    rfl

end Go.Proofs.Ytblgllngkbjfgaa
