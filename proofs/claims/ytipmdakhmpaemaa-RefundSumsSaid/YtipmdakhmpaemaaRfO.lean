import Derived.Test.YtipmdakhmpaemaaRfN
import Derived.Test.YtipmdakhmpaemaaRfH
import Derived.Test.YtipmdakhmpaemaaRfJ
import Derived.Test.YtipmdakhmpaemaaRfL
namespace Go.Proofs.Ytipmdakhmpaemaa
open Go Go.RowKit Eng
set_option linter.unusedVariables false
set_option linter.unusedSimpArgs false

def cpkf : Cp := (((⟨#[]⟩, 0, 0, ⟨#[]⟩, ⟨#[]⟩, 0, 0), ⟨#[]⟩), ⟨#[]⟩, 5, 5000)
def ruk (n c r : Int) : Ru := (n, ru0.2.1, ru0.2.2.1, 0, 0, c, r, ru0.2.2.2.2.2.2.2)
def fak (n : Int) : Fa := (⟨#[]⟩, ⟨#[]⟩, ⟨#[]⟩, ⟨#[]⟩, ⟨#[]⟩, false, 0, n, 0)
theorem kof1 : ofE [cpk 10000, cpk 10000] [(⟨#[71, 66]⟩, 3000)] 5000 = ((20000, 3000, 5000, 18000), 0) := by rfl
theorem kof2 : ofE [setS (cpk 10000) 7, setS (cpk 10000) 7] [(⟨#[71, 66]⟩, 3000)] 5000 = (pd0, 27) := by rfl
theorem kun : unusedE [cpk 10000, cpkf] = (10000, 0) := by rfl
theorem kfe : feeE [fak 1, fak 2] [ruk 1 0 2000, ruk 2 0 5000] rfee [(0, 0, 0, 0), (0, 0, 1, 0)] = (5000, 0) := by rfl
theorem kex1 : exE [cpk 20000, cpk 10000] [(⟨#[71, 66]⟩, 2000)] 35000 5000 = ((32000, 5000, 8000, 0), 0) := by rfl
theorem kex2 : exE [cpk 20000, cpk 10000] [(⟨#[71, 66]⟩, 2000)] 20000 5000 = ((32000, 5000, 0, 7000), 0) := by rfl
theorem kex3 : exE [setS (cpk 20000) 6, setS (cpk 10000) 6] [(⟨#[71, 66]⟩, 2000)] 35000 5000 = (pd0, 27) := by rfl
theorem kxfe : feeE [fak 1, fak 2] [ruk 1 2000 0, ruk 2 5000 0] cfee [(0, 0, 0, 0), (0, 0, 1, 0)] = (5000, 0) := by rfl

set_option maxHeartbeats 4000000 in
set_option maxRecDepth 100000 in
theorem knows_ok (w0 : World) : FnC Try.prog 13 [] w0 fun v w' => v = .bool true := by
  refine fnc (N := 94) Try.func13 rfl rfl rfl ?_
  refine WC.seq ?_
  refine WC.region ?_
  refine SL.pure rfl rfl rfl (PureOp.assign rfl) ?_
  refine SL.nil_then ?_
  refine WC.seq ?_
  refine WC.region ?_
  refine SL.callM [] rfl rfl rfl rfl rfl rfl callable34 (by decide) (ticket_ok w0) rfl (fun _ _ => rfl) ?_
  rintro ⟨bc1, bx1⟩ _
  refine SL.norm [_, _] rfl ?_
  refine SL.alloc rfl rfl zero27 (fun b1 hb1 => ?_)
  refine SL.norm [_, _, _] rfl ?_
  refine SL.store 2 rfl rfl rfl rfl sz27 rfl rfl ?_
  refine SL.norm [_, _, _] rfl ?_
  refine SL.nil_then ?_
  refine WC.seq ?_
  refine WC.region ?_
  refine SL.pure rfl rfl rfl (PureOp.loads (vs := [.int .i64 12512345678906, .string (⟨#[]⟩), .string (⟨#[]⟩), .string (⟨#[]⟩), .string (⟨#[]⟩), .slice (some ⟨bc1, 0, none⟩) 2 2, .int .i64 20000, .slice (some ⟨bx1, 0, none⟩) 1 1, .int .i64 23000, .int .i64 0]) Try.underlying27 rfl rfl (fun _ => (RowIs.cells 2 0 10 rfl rfl)) sz27) ?_
  refine SL.calle rfl rfl rfl rfl rfl rfl callable16 (fun w hw => (by have h := of_ok (tkk 12512345678906 20000 3000 23000 bx1) [cpk 10000, cpk 10000] (some ⟨bc1, 0, none⟩) 2 2 rfl w (SliceIn.rows (enc := enc65) (l := [cpk 10000, cpk 10000]) (hw.mem (i := 0) rfl) enc65_len (by decide)) (by decide) (SliceIn.rows (enc := enc67) (l := [(⟨#[71, 66]⟩, 3000)]) (hw.mem (i := 1) rfl) enc67_len (Nat.le_refl 1)) (show 1 ≤ 1000 from by decide) 5000; have e : ofE [cpk 10000, cpk 10000] (tkk 12512345678906 20000 3000 23000 bx1).taxes.l 5000 = _ := kof1; rw [e] at h; exact h)) ?_
  refine SL.norm [_, _, _] rfl ?_
  refine SL.pure rfl rfl rfl (PureOp.move rfl) ?_
  refine SL.pure rfl rfl rfl (PureOp.extract rfl rfl) ?_
  refine SL.pure rfl rfl rfl (PureOp.extract rfl rfl) ?_
  refine SL.alloc rfl rfl zero34 (fun b2 hb2 => ?_)
  refine SL.norm [_, _, _, _] rfl ?_
  refine SL.store 3 rfl rfl rfl rfl sz34 rfl rfl ?_
  refine SL.norm [_, _, _, _] rfl ?_
  refine SL.pure rfl rfl rfl (PureOp.assign rfl) ?_
  refine SL.nil_then ?_
  refine WC.seq ?_
  refine WC.region ?_
  refine SL.pure rfl rfl rfl (PureOp.loads (vs := [.int .i64 12512345678906, .string (⟨#[]⟩), .string (⟨#[]⟩), .string (⟨#[]⟩), .string (⟨#[]⟩), .slice (some ⟨bc1, 0, none⟩) 2 2, .int .i64 20000, .slice (some ⟨bx1, 0, none⟩) 1 1, .int .i64 23000, .int .i64 0]) Try.underlying27 rfl rfl (fun _ => (RowIs.cells 2 0 10 rfl rfl)) sz27) ?_
  refine SL.callo (fun ya yc => .tuple #[.agg #[.int .i64 12512345678906, .string (⟨#[]⟩), .string (⟨#[]⟩), .string (⟨#[]⟩), .string (⟨#[]⟩), .slice ya 2 yc, .int .i64 20000, .slice (some ⟨bx1, 0, none⟩) 1 1, .int .i64 23000, .int .i64 0], .agg #[.int .i64 20000, .int .i64 3000, .int .i64 5000, .int .i64 18000], .int .i64 0]) rfl rfl rfl rfl rfl rfl callable19 (fun w hw => (by have h := apply_ok (tkk 12512345678906 20000 3000 23000 bx1) [cpk 10000, cpk 10000] (some ⟨bc1, 0, none⟩) 2 2 rfl w (SliceIn.rows (enc := enc65) (l := [cpk 10000, cpk 10000]) (hw.mem (i := 0) rfl) enc65_len (by decide)) (by decide) (SliceIn.rows (enc := enc67) (l := [(⟨#[71, 66]⟩, 3000)]) (hw.mem (i := 1) rfl) enc67_len (Nat.le_refl 1)) (show 1 ≤ 1000 from by decide) 5000; have e : ofE [cpk 10000, cpk 10000] (tkk 12512345678906 20000 3000 23000 bx1).taxes.l 5000 = _ := kof1; rw [e] at h; exact h)) (fun ya yc => ?_)
  refine SL.norm [_, _, _, _, _] rfl ?_
  refine SL.pure rfl rfl rfl (PureOp.move rfl) ?_
  refine SL.pure rfl rfl rfl (PureOp.extract rfl rfl) ?_
  refine SL.pure rfl rfl rfl (PureOp.extract rfl rfl) ?_
  refine SL.pure rfl rfl rfl (PureOp.extract rfl rfl) ?_
  refine SL.alloc rfl rfl zero27 (fun b3 hb3 => ?_)
  refine SL.norm [_, _, _, _, _, _] rfl ?_
  refine SL.alloc rfl rfl zero34 (fun b4 hb4 => ?_)
  refine SL.norm [_, _, _, _, _, _, _] rfl ?_
  refine SL.store 5 rfl rfl rfl rfl sz27 rfl rfl ?_
  refine SL.norm [_, _, _, _, _, _, _] rfl ?_
  refine SL.store 6 rfl rfl rfl rfl sz34 rfl rfl ?_
  refine SL.norm [_, _, _, _, _, _, _] rfl ?_
  refine SL.pure rfl rfl rfl (PureOp.assign rfl) ?_
  refine SL.nil_then ?_
  refine WC.seq ?_
  refine WC.region ?_
  refine SL.pure rfl rfl rfl (PureOp.loads (vs := [.int .i64 12512345678906, .string (⟨#[]⟩), .string (⟨#[]⟩), .string (⟨#[]⟩), .string (⟨#[]⟩), .slice ya 2 yc, .int .i64 20000, .slice (some ⟨bx1, 0, none⟩) 1 1, .int .i64 23000, .int .i64 0]) Try.underlying27 rfl rfl (fun _ => (RowIs.cells 5 0 10 rfl rfl)) sz27) ?_
  refine SL.callo (fun za zc => .tuple #[.agg #[.int .i64 0, .string (⟨#[]⟩), .string (⟨#[]⟩), .string (⟨#[]⟩), .string (⟨#[]⟩), .slice za 0 zc, .int .i64 0, .slice none 0 0, .int .i64 0, .int .i64 0], .agg #[.int .i64 0, .int .i64 0, .int .i64 0, .int .i64 0], .int .i64 27]) rfl rfl rfl rfl rfl rfl callable19 (fun w hw => (by have h := apply_ok (tkk 12512345678906 20000 3000 23000 bx1) [setS (cpk 10000) 7, setS (cpk 10000) 7] ya 2 yc rfl w (SliceIn.rows (enc := enc65) (l := [setS (cpk 10000) 7, setS (cpk 10000) 7]) (hw.mem (i := 4) rfl) enc65_len (by decide)) (by decide) (SliceIn.rows (enc := enc67) (l := [(⟨#[71, 66]⟩, 3000)]) (hw.mem (i := 1) rfl) enc67_len (Nat.le_refl 1)) (show 1 ≤ 1000 from by decide) 5000; have e : ofE [setS (cpk 10000) 7, setS (cpk 10000) 7] (tkk 12512345678906 20000 3000 23000 bx1).taxes.l 5000 = _ := kof2; rw [e] at h; exact h)) (fun za zc => ?_)
  refine SL.norm [_, _, _, _, _, _, _, _] rfl ?_
  refine SL.pure rfl rfl rfl (PureOp.move rfl) ?_
  refine SL.pure rfl rfl rfl (PureOp.extract rfl rfl) ?_
  refine SL.pure rfl rfl rfl (PureOp.extract rfl rfl) ?_
  refine SL.pure rfl rfl rfl (PureOp.extract rfl rfl) ?_
  refine SL.alloc rfl rfl zero27 (fun b5 hb5 => ?_)
  refine SL.norm [_, _, _, _, _, _, _, _, _] rfl ?_
  refine SL.alloc rfl rfl zero34 (fun b6 hb6 => ?_)
  refine SL.norm [_, _, _, _, _, _, _, _, _, _] rfl ?_
  refine SL.store 8 rfl rfl rfl rfl sz27 rfl rfl ?_
  refine SL.norm [_, _, _, _, _, _, _, _, _, _] rfl ?_
  refine SL.store 9 rfl rfl rfl rfl sz34 rfl rfl ?_
  refine SL.norm [_, _, _, _, _, _, _, _, _, _] rfl ?_
  refine SL.pure rfl rfl rfl (PureOp.assign rfl) ?_
  refine SL.nil_then ?_
  refine WC.seq ?_
  refine WC.region ?_
  refine SL.pure rfl rfl rfl (PureOp.fieldAddrT 5 Try.underlying27 rfl sz24 rfl rfl) ?_
  refine SL.pure rfl rfl rfl (PureOp.load (v := .slice (some ⟨bc1, 0, none⟩) 2 2) Try.underlying24 rfl rfl (fun _ => (CellIs.cells 2 rfl rfl))) ?_
  refine SL.pure rfl rfl rfl (PureOp.build bld65 rfl rfl) ?_
  refine SL.pure rfl rfl rfl (PureOp.indexAddr Try.underlying24 sz65 rfl rfl AoOk.lit (fun _ => by first | omega | decide)) ?_
  refine SL.storerow (k := ((1 : Int).toNat)) (j := 0) 0 rfl rfl rfl rfl sz65 (by first | omega | decide) rfl ?_
  refine SL.itemxs 0 rfl (show _ = cellsOf enc65 [cpk 10000, cpkf] from rfl) ?_
  refine SL.norm [_, _, _, _, _, _, _, _, _, _] rfl ?_
  refine SL.nil_then ?_
  refine WC.seq ?_
  refine WC.region ?_
  refine SL.pure rfl rfl rfl (PureOp.loads (vs := [.int .i64 12512345678906, .string (⟨#[]⟩), .string (⟨#[]⟩), .string (⟨#[]⟩), .string (⟨#[]⟩), .slice (some ⟨bc1, 0, none⟩) 2 2, .int .i64 20000, .slice (some ⟨bx1, 0, none⟩) 1 1, .int .i64 23000, .int .i64 0]) Try.underlying27 rfl rfl (fun _ => (RowIs.cells 2 0 10 rfl rfl)) sz27) ?_
  refine SL.calle rfl rfl rfl rfl rfl rfl callable14 (fun w hw => (by have h := unused_ok (tkk 12512345678906 20000 3000 23000 bx1) [cpk 10000, cpkf] (some ⟨bc1, 0, none⟩) 2 2 rfl w (SliceIn.rows (enc := enc65) (l := [cpk 10000, cpkf]) (hw.mem (i := 0) rfl) enc65_len (by decide)) (by decide) (SliceIn.rows (enc := enc67) (l := [(⟨#[71, 66]⟩, 3000)]) (hw.mem (i := 1) rfl) enc67_len (Nat.le_refl 1)) (show 1 ≤ 1000 from by decide); rw [kun] at h; exact h)) ?_
  refine SL.norm [_, _, _, _, _, _, _, _, _, _] rfl ?_
  refine SL.pure rfl rfl rfl (PureOp.move rfl) ?_
  refine SL.pure rfl rfl rfl (PureOp.extract rfl rfl) ?_
  refine SL.pure rfl rfl rfl (PureOp.extract rfl rfl) ?_
  refine SL.pure rfl rfl rfl (PureOp.assign rfl) ?_
  refine SL.pure rfl rfl rfl (PureOp.assign rfl) ?_
  refine SL.nil_then ?_
  refine WC.seq ?_
  refine WC.region ?_
  refine SL.pure rfl rfl rfl (PureOp.build bld92 rfl rfl) ?_
  refine SL.pure rfl rfl rfl (PureOp.build bld92 rfl rfl) ?_
  refine SL.buildSlice rfl rfl Try.underlying48 elem92 rfl rfl rfl rfl (fun b7 hb7 => ?_)
  refine SL.norm [_, _, _, _, _, _, _, _, _, _, _] rfl ?_
  refine SL.pure rfl rfl rfl (PureOp.build bld94 rfl rfl) ?_
  refine SL.pure rfl rfl rfl (PureOp.build bld94 rfl rfl) ?_
  refine SL.buildSlice rfl rfl Try.underlying47 elem94 rfl rfl rfl rfl (fun b8 hb8 => ?_)
  refine SL.norm [_, _, _, _, _, _, _, _, _, _, _, _] rfl ?_
  refine SL.pure rfl rfl rfl (PureOp.build bld52 rfl rfl) ?_
  refine SL.alloc rfl rfl zero52 (fun b9 hb9 => ?_)
  refine SL.norm [_, _, _, _, _, _, _, _, _, _, _, _, _] rfl ?_
  refine SL.store 12 rfl rfl rfl rfl sz52 rfl rfl ?_
  refine SL.norm [_, _, _, _, _, _, _, _, _, _, _, _, _] rfl ?_
  refine SL.nil_then ?_
  refine WC.seq ?_
  refine WC.region ?_
  refine SL.pure rfl rfl rfl (PureOp.loads (vs := [.slice (some ⟨b8, 0, none⟩) 2 2, .slice (some ⟨b7, 0, none⟩) 2 2, .slice none 0 0, .slice none 0 0]) Try.underlying52 rfl rfl (fun _ => (RowIs.cells 12 0 4 rfl rfl)) sz52) ?_
  refine SL.pure rfl rfl rfl (PureOp.build bld96 rfl rfl) ?_
  refine SL.pure rfl rfl rfl (PureOp.build bld96 rfl rfl) ?_
  refine SL.buildSlice rfl rfl Try.underlying53 elem96 rfl rfl rfl rfl (fun b10 hb10 => ?_)
  refine SL.norm [_, _, _, _, _, _, _, _, _, _, _, _, _, _] rfl ?_
  refine SL.pure rfl rfl rfl (PureOp.build bld56 rfl rfl) ?_
  refine SL.calle rfl rfl rfl rfl rfl rfl callable22 (fun w hw => (by have h := fee_ok ⟨none, 0, []⟩ ⟨none, 0, []⟩ [fak 1, fak 2] [ruk 1 0 2000, ruk 2 0 5000] (some ⟨b8, 0, none⟩) (some ⟨b7, 0, none⟩) 2 2 2 2 rfl rfl w (SliceIn.rows (enc := enc94) (l := [fak 1, fak 2]) (hw.mem (i := 11) rfl) enc94_len (by decide)) (SliceIn.rows (enc := enc92) (l := [ruk 1 0 2000, ruk 2 0 5000]) (hw.mem (i := 10) rfl) enc92_len (by decide)) (by decide) (by decide) ⟨none, 0, []⟩ ⟨none, 0, []⟩ 0 0 [(0, 0, 0, 0), (0, 0, 1, 0)] (some ⟨b10, 0, none⟩) 2 2 rfl (SliceIn.rows (enc := enc96) (l := [(0, 0, 0, 0), (0, 0, 1, 0)]) (hw.mem (i := 13) rfl) enc96_len (by decide)) (by decide); rw [kfe] at h; exact h)) ?_
  refine SL.norm [_, _, _, _, _, _, _, _, _, _, _, _, _, _] rfl ?_
  refine SL.pure rfl rfl rfl (PureOp.move rfl) ?_
  refine SL.pure rfl rfl rfl (PureOp.extract rfl rfl) ?_
  refine SL.pure rfl rfl rfl (PureOp.extract rfl rfl) ?_
  refine SL.pure rfl rfl rfl (PureOp.assign rfl) ?_
  refine SL.pure rfl rfl rfl (PureOp.assign rfl) ?_
  refine SL.nil_then ?_
  refine WC.seq ?_
  refine WC.region ?_
  refine SL.pure rfl rfl rfl (PureOp.loads (vs := [.int .i64 20000, .int .i64 3000, .int .i64 5000, .int .i64 18000]) Try.underlying34 rfl rfl (fun _ => (RowIs.cells 3 0 4 rfl rfl)) sz34) ?_
  refine SL.pure rfl rfl rfl (PureOp.build bld34 rfl rfl) ?_
  refine SL.pure rfl rfl rfl (PureOp.eqla rfl rfl flat34 rfl) ?_
  refine SL.pure rfl rfl rfl (PureOp.move rfl) ?_
  refine SL.newg 61 true rfl ?_
  refine SL.gpure (c := 1) rfl rfl rfl rfl rfl rfl rfl (PureOp.move rfl) ?_
  refine SL.gpure (c := 1) rfl rfl rfl rfl rfl rfl rfl (PureOp.eql rfl rfl) ?_
  refine SL.pure rfl rfl rfl (PureOp.and_ rfl rfl rfl rfl) ?_
  refine SL.pure rfl rfl rfl (PureOp.move rfl) ?_
  refine SL.newg 65 true rfl ?_
  refine SL.gpure (c := 2) rfl rfl rfl rfl rfl rfl rfl (PureOp.loads (vs := [.int .i64 20000, .int .i64 3000, .int .i64 5000, .int .i64 18000]) Try.underlying34 rfl rfl (fun _ => (RowIs.cells 6 0 4 rfl rfl)) sz34) ?_
  refine SL.gpure (c := 2) rfl rfl rfl rfl rfl rfl rfl (PureOp.loads (vs := [.int .i64 20000, .int .i64 3000, .int .i64 5000, .int .i64 18000]) Try.underlying34 rfl rfl (fun _ => (RowIs.cells 3 0 4 rfl rfl)) sz34) ?_
  refine SL.gpure (c := 2) rfl rfl rfl rfl rfl rfl rfl (PureOp.eqla rfl rfl flat34 rfl) ?_
  refine SL.pure rfl rfl rfl (PureOp.and_ rfl rfl rfl rfl) ?_
  refine SL.pure rfl rfl rfl (PureOp.move rfl) ?_
  refine SL.newg 70 true rfl ?_
  refine SL.gpure (c := 3) rfl rfl rfl rfl rfl rfl rfl (PureOp.move rfl) ?_
  refine SL.gpure (c := 3) rfl rfl rfl rfl rfl rfl rfl (PureOp.eql rfl rfl) ?_
  refine SL.pure rfl rfl rfl (PureOp.and_ rfl rfl rfl rfl) ?_
  refine SL.pure rfl rfl rfl (PureOp.move rfl) ?_
  refine SL.newg 74 true rfl ?_
  refine SL.gpure (c := 4) rfl rfl rfl rfl rfl rfl rfl (PureOp.move rfl) ?_
  refine SL.gpure (c := 4) rfl rfl rfl rfl rfl rfl rfl (PureOp.eql rfl rfl) ?_
  refine SL.pure rfl rfl rfl (PureOp.and_ rfl rfl rfl rfl) ?_
  refine SL.pure rfl rfl rfl (PureOp.move rfl) ?_
  refine SL.newg 78 true rfl ?_
  refine SL.gpure (c := 5) rfl rfl rfl rfl rfl rfl rfl (PureOp.move rfl) ?_
  refine SL.gpure (c := 5) rfl rfl rfl rfl rfl rfl rfl (PureOp.eql rfl rfl) ?_
  refine SL.pure rfl rfl rfl (PureOp.and_ rfl rfl rfl rfl) ?_
  refine SL.pure rfl rfl rfl (PureOp.move rfl) ?_
  refine SL.newg 82 true rfl ?_
  refine SL.gpure (c := 6) rfl rfl rfl rfl rfl rfl rfl (PureOp.move rfl) ?_
  refine SL.gpure (c := 6) rfl rfl rfl rfl rfl rfl rfl (PureOp.eql rfl rfl) ?_
  refine SL.pure rfl rfl rfl (PureOp.and_ rfl rfl rfl rfl) ?_
  refine SL.pure rfl rfl rfl (PureOp.move rfl) ?_
  refine SL.newg 86 true rfl ?_
  refine SL.gpure (c := 7) rfl rfl rfl rfl rfl rfl rfl (PureOp.move rfl) ?_
  refine SL.gpure (c := 7) rfl rfl rfl rfl rfl rfl rfl (PureOp.eql rfl rfl) ?_
  refine SL.pure rfl rfl rfl (PureOp.and_ rfl rfl rfl rfl) ?_
  refine SL.pure rfl rfl rfl (PureOp.move rfl) ?_
  refine SL.newg 90 true rfl ?_
  refine SL.gpure (c := 8) rfl rfl rfl rfl rfl rfl rfl (PureOp.move rfl) ?_
  refine SL.gpure (c := 8) rfl rfl rfl rfl rfl rfl rfl (PureOp.eql rfl rfl) ?_
  refine SL.pure rfl rfl rfl (PureOp.and_ rfl rfl rfl rfl) ?_
  refine SL.pure rfl rfl rfl (PureOp.assign rfl) ?_
  refine SL.nil_then ?_
  refine WC.ret ?_
  refine QX.ret1 rfl rfl ?_
  intro w hw
  rfl

set_option maxHeartbeats 4000000 in
set_option maxRecDepth 100000 in
theorem awake_ok (w0 : World) : FnC Try.prog 25 [] w0 fun v w' => v = .bool true := by
  refine fnc (N := 106) Try.func25 rfl rfl rfl ?_
  refine WC.seq ?_
  refine WC.region ?_
  refine SL.pure rfl rfl rfl (PureOp.assign rfl) ?_
  refine SL.nil_then ?_
  refine WC.seq ?_
  refine WC.region ?_
  refine SL.callM [] rfl rfl rfl rfl rfl rfl callable49 (by decide) (sample_ok w0) rfl (fun _ _ => rfl) ?_
  rintro ⟨bc1, bx1⟩ _
  refine SL.norm [_, _] rfl ?_
  refine SL.pure rfl rfl rfl (PureOp.build bld56 rfl rfl) ?_
  refine SL.calle rfl rfl rfl rfl rfl rfl callable26 (fun w hw => (by have h := xof_ok (tkk 7 30000 2000 32000 bx1) [cpk 20000, cpk 10000] (some ⟨bc1, 0, none⟩) 2 2 rfl w (SliceIn.rows (enc := enc65) (l := [cpk 20000, cpk 10000]) (hw.mem (i := 0) rfl) enc65_len (by decide)) (by decide) (SliceIn.rows (enc := enc67) (l := [(⟨#[71, 66]⟩, 2000)]) (hw.mem (i := 1) rfl) enc67_len (Nat.le_refl 1)) (show 1 ≤ 1000 from by decide) 35000 5000; have e : exE [cpk 20000, cpk 10000] (tkk 7 30000 2000 32000 bx1).taxes.l 35000 5000 = _ := kex1; rw [e] at h; exact h)) ?_
  refine SL.norm [_, _] rfl ?_
  refine SL.pure rfl rfl rfl (PureOp.move rfl) ?_
  refine SL.pure rfl rfl rfl (PureOp.extract rfl rfl) ?_
  refine SL.pure rfl rfl rfl (PureOp.extract rfl rfl) ?_
  refine SL.alloc rfl rfl zero70 (fun b1 hb1 => ?_)
  refine SL.norm [_, _, _] rfl ?_
  refine SL.store 2 rfl rfl rfl rfl sz70 rfl rfl ?_
  refine SL.norm [_, _, _] rfl ?_
  refine SL.pure rfl rfl rfl (PureOp.assign rfl) ?_
  refine SL.nil_then ?_
  refine WC.seq ?_
  refine WC.region ?_
  refine SL.callM [] rfl rfl rfl rfl rfl rfl callable49 (by decide) (sample_ok w0) rfl (fun _ _ => rfl) ?_
  rintro ⟨bc2, bx2⟩ _
  refine SL.norm [_, _, _, _, _] rfl ?_
  refine SL.pure rfl rfl rfl (PureOp.build bld56 rfl rfl) ?_
  refine SL.calle rfl rfl rfl rfl rfl rfl callable26 (fun w hw => (by have h := xof_ok (tkk 7 30000 2000 32000 bx2) [cpk 20000, cpk 10000] (some ⟨bc2, 0, none⟩) 2 2 rfl w (SliceIn.rows (enc := enc65) (l := [cpk 20000, cpk 10000]) (hw.mem (i := 3) rfl) enc65_len (by decide)) (by decide) (SliceIn.rows (enc := enc67) (l := [(⟨#[71, 66]⟩, 2000)]) (hw.mem (i := 4) rfl) enc67_len (Nat.le_refl 1)) (show 1 ≤ 1000 from by decide) 20000 5000; have e : exE [cpk 20000, cpk 10000] (tkk 7 30000 2000 32000 bx2).taxes.l 20000 5000 = _ := kex2; rw [e] at h; exact h)) ?_
  refine SL.norm [_, _, _, _, _] rfl ?_
  refine SL.pure rfl rfl rfl (PureOp.move rfl) ?_
  refine SL.pure rfl rfl rfl (PureOp.extract rfl rfl) ?_
  refine SL.pure rfl rfl rfl (PureOp.extract rfl rfl) ?_
  refine SL.alloc rfl rfl zero70 (fun b2 hb2 => ?_)
  refine SL.norm [_, _, _, _, _, _] rfl ?_
  refine SL.store 5 rfl rfl rfl rfl sz70 rfl rfl ?_
  refine SL.norm [_, _, _, _, _, _] rfl ?_
  refine SL.pure rfl rfl rfl (PureOp.assign rfl) ?_
  refine SL.nil_then ?_
  refine WC.seq ?_
  refine WC.region ?_
  refine SL.callM [] rfl rfl rfl rfl rfl rfl callable49 (by decide) (sample_ok w0) rfl (fun _ _ => rfl) ?_
  rintro ⟨bc3, bx3⟩ _
  refine SL.norm [_, _, _, _, _, _, _, _] rfl ?_
  refine SL.pure rfl rfl rfl (PureOp.build bld56 rfl rfl) ?_
  refine SL.callo (fun ya yc => .tuple #[.agg #[.int .i64 7, .string (⟨#[]⟩), .string (⟨#[]⟩), .string (⟨#[]⟩), .string (⟨#[]⟩), .slice ya 2 yc, .int .i64 30000, .slice (some ⟨bx3, 0, none⟩) 1 1, .int .i64 32000, .int .i64 0], .agg #[.int .i64 32000, .int .i64 5000, .int .i64 8000, .int .i64 0], .int .i64 0]) rfl rfl rfl rfl rfl rfl callable28 (fun w hw => (by have h := xapply_ok (tkk 7 30000 2000 32000 bx3) [cpk 20000, cpk 10000] (some ⟨bc3, 0, none⟩) 2 2 rfl w (SliceIn.rows (enc := enc65) (l := [cpk 20000, cpk 10000]) (hw.mem (i := 6) rfl) enc65_len (by decide)) (by decide) (SliceIn.rows (enc := enc67) (l := [(⟨#[71, 66]⟩, 2000)]) (hw.mem (i := 7) rfl) enc67_len (Nat.le_refl 1)) (show 1 ≤ 1000 from by decide) 35000 5000; have e : exE [cpk 20000, cpk 10000] (tkk 7 30000 2000 32000 bx3).taxes.l 35000 5000 = _ := kex1; rw [e] at h; exact h)) (fun ya yc => ?_)
  refine SL.norm [_, _, _, _, _, _, _, _, _] rfl ?_
  refine SL.pure rfl rfl rfl (PureOp.move rfl) ?_
  refine SL.pure rfl rfl rfl (PureOp.extract rfl rfl) ?_
  refine SL.pure rfl rfl rfl (PureOp.extract rfl rfl) ?_
  refine SL.pure rfl rfl rfl (PureOp.extract rfl rfl) ?_
  refine SL.alloc rfl rfl zero27 (fun b3 hb3 => ?_)
  refine SL.norm [_, _, _, _, _, _, _, _, _, _] rfl ?_
  refine SL.alloc rfl rfl zero70 (fun b4 hb4 => ?_)
  refine SL.norm [_, _, _, _, _, _, _, _, _, _, _] rfl ?_
  refine SL.store 9 rfl rfl rfl rfl sz27 rfl rfl ?_
  refine SL.norm [_, _, _, _, _, _, _, _, _, _, _] rfl ?_
  refine SL.store 10 rfl rfl rfl rfl sz70 rfl rfl ?_
  refine SL.norm [_, _, _, _, _, _, _, _, _, _, _] rfl ?_
  refine SL.pure rfl rfl rfl (PureOp.assign rfl) ?_
  refine SL.nil_then ?_
  refine WC.seq ?_
  refine WC.seq ?_
  refine WC.region ?_
  refine SL.pure rfl rfl rfl (PureOp.fieldAddrT 5 Try.underlying27 rfl sz24 rfl rfl) ?_
  refine SL.pure rfl rfl rfl (PureOp.load (v := .slice ya 2 yc) Try.underlying24 rfl rfl (fun _ => (CellIs.cells 9 rfl rfl))) ?_
  refine SL.pure rfl rfl rfl (PureOp.len rfl Try.underlying24) ?_
  refine SL.pure rfl rfl rfl (PureOp.neq rfl rfl) ?_
  refine SL.nil_then ?_
  refine WC.cond rfl (fun h1 => ?_) (fun h1 => ?_)
  · try simp only [Bool.and_eq_true, Bool.or_eq_true, Bool.not_eq_true', Bool.not_eq_false', Bool.and_eq_false_iff, Bool.or_eq_false_iff, decide_eq_true_eq, decide_eq_false_iff_not, Int.not_lt, Int.not_le, ne_eq, Decidable.not_not] at h1
    exact absurd h1 (by decide)
  · try simp only [Bool.and_eq_true, Bool.or_eq_true, Bool.not_eq_true', Bool.not_eq_false', Bool.and_eq_false_iff, Bool.or_eq_false_iff, decide_eq_true_eq, decide_eq_false_iff_not, Int.not_lt, Int.not_le, ne_eq, Decidable.not_not] at h1
    refine WC.skip ?_
    refine QX.then_ ?_
    refine WC.seq ?_
    refine WC.region ?_
    refine SL.pure rfl rfl rfl (PureOp.loads (vs := [.int .i64 7, .string (⟨#[]⟩), .string (⟨#[]⟩), .string (⟨#[]⟩), .string (⟨#[]⟩), .slice ya 2 yc, .int .i64 30000, .slice (some ⟨bx3, 0, none⟩) 1 1, .int .i64 32000, .int .i64 0]) Try.underlying27 rfl rfl (fun _ => (RowIs.cells 9 0 10 rfl rfl)) sz27) ?_
    refine SL.pure rfl rfl rfl (PureOp.build bld56 rfl rfl) ?_
    refine SL.calle rfl rfl rfl rfl rfl rfl callable26 (fun w hw => (by have h := xof_ok (tkk 7 30000 2000 32000 bx3) [setS (cpk 20000) 6, setS (cpk 10000) 6] ya 2 yc rfl w (SliceIn.rows (enc := enc65) (l := [setS (cpk 20000) 6, setS (cpk 10000) 6]) (hw.mem (i := 8) rfl) enc65_len (by decide)) (by decide) (SliceIn.rows (enc := enc67) (l := [(⟨#[71, 66]⟩, 2000)]) (hw.mem (i := 7) rfl) enc67_len (Nat.le_refl 1)) (show 1 ≤ 1000 from by decide) 35000 5000; have e : exE [setS (cpk 20000) 6, setS (cpk 10000) 6] (tkk 7 30000 2000 32000 bx3).taxes.l 35000 5000 = _ := kex3; rw [e] at h; exact h)) ?_
    refine SL.norm [_, _, _, _, _, _, _, _, _, _, _] rfl ?_
    refine SL.pure rfl rfl rfl (PureOp.move rfl) ?_
    refine SL.pure rfl rfl rfl (PureOp.extract rfl rfl) ?_
    refine SL.pure rfl rfl rfl (PureOp.extract rfl rfl) ?_
    refine SL.alloc rfl rfl zero70 (fun b5 hb5 => ?_)
    refine SL.norm [_, _, _, _, _, _, _, _, _, _, _, _] rfl ?_
    refine SL.store 11 rfl rfl rfl rfl sz70 rfl rfl ?_
    refine SL.norm [_, _, _, _, _, _, _, _, _, _, _, _] rfl ?_
    refine SL.pure rfl rfl rfl (PureOp.assign rfl) ?_
    refine SL.nil_then ?_
    refine WC.seq ?_
    refine WC.region ?_
    refine SL.pure rfl rfl rfl (PureOp.build bld94 rfl rfl) ?_
    refine SL.pure rfl rfl rfl (PureOp.build bld94 rfl rfl) ?_
    refine SL.buildSlice rfl rfl Try.underlying47 elem94 rfl rfl rfl rfl (fun b6 hb6 => ?_)
    refine SL.norm [_, _, _, _, _, _, _, _, _, _, _, _, _] rfl ?_
    refine SL.pure rfl rfl rfl (PureOp.build bld92 rfl rfl) ?_
    refine SL.pure rfl rfl rfl (PureOp.build bld92 rfl rfl) ?_
    refine SL.buildSlice rfl rfl Try.underlying48 elem92 rfl rfl rfl rfl (fun b7 hb7 => ?_)
    refine SL.norm [_, _, _, _, _, _, _, _, _, _, _, _, _, _] rfl ?_
    refine SL.pure rfl rfl rfl (PureOp.build bld52 rfl rfl) ?_
    refine SL.alloc rfl rfl zero52 (fun b8 hb8 => ?_)
    refine SL.norm [_, _, _, _, _, _, _, _, _, _, _, _, _, _, _] rfl ?_
    refine SL.store 14 rfl rfl rfl rfl sz52 rfl rfl ?_
    refine SL.norm [_, _, _, _, _, _, _, _, _, _, _, _, _, _, _] rfl ?_
    refine SL.nil_then ?_
    refine WC.seq ?_
    refine WC.region ?_
    refine SL.pure rfl rfl rfl (PureOp.loads (vs := [.slice (some ⟨b6, 0, none⟩) 2 2, .slice (some ⟨b7, 0, none⟩) 2 2, .slice none 0 0, .slice none 0 0]) Try.underlying52 rfl rfl (fun _ => (RowIs.cells 14 0 4 rfl rfl)) sz52) ?_
    refine SL.pure rfl rfl rfl (PureOp.build bld96 rfl rfl) ?_
    refine SL.pure rfl rfl rfl (PureOp.build bld96 rfl rfl) ?_
    refine SL.buildSlice rfl rfl Try.underlying53 elem96 rfl rfl rfl rfl (fun b9 hb9 => ?_)
    refine SL.norm [_, _, _, _, _, _, _, _, _, _, _, _, _, _, _, _] rfl ?_
    refine SL.pure rfl rfl rfl (PureOp.build bld56 rfl rfl) ?_
    refine SL.calle rfl rfl rfl rfl rfl rfl callable32 (fun w hw => (by have h := xfee_ok ⟨none, 0, []⟩ ⟨none, 0, []⟩ [fak 1, fak 2] [ruk 1 2000 0, ruk 2 5000 0] (some ⟨b6, 0, none⟩) (some ⟨b7, 0, none⟩) 2 2 2 2 rfl rfl w (SliceIn.rows (enc := enc94) (l := [fak 1, fak 2]) (hw.mem (i := 12) rfl) enc94_len (by decide)) (SliceIn.rows (enc := enc92) (l := [ruk 1 2000 0, ruk 2 5000 0]) (hw.mem (i := 13) rfl) enc92_len (by decide)) (by decide) (by decide) ⟨none, 0, []⟩ ⟨none, 0, []⟩ 0 0 [(0, 0, 0, 0), (0, 0, 1, 0)] (some ⟨b9, 0, none⟩) 2 2 rfl (SliceIn.rows (enc := enc96) (l := [(0, 0, 0, 0), (0, 0, 1, 0)]) (hw.mem (i := 15) rfl) enc96_len (by decide)) (by decide); rw [kxfe] at h; exact h)) ?_
    refine SL.norm [_, _, _, _, _, _, _, _, _, _, _, _, _, _, _, _] rfl ?_
    refine SL.pure rfl rfl rfl (PureOp.move rfl) ?_
    refine SL.pure rfl rfl rfl (PureOp.extract rfl rfl) ?_
    refine SL.pure rfl rfl rfl (PureOp.extract rfl rfl) ?_
    refine SL.pure rfl rfl rfl (PureOp.assign rfl) ?_
    refine SL.pure rfl rfl rfl (PureOp.assign rfl) ?_
    refine SL.nil_then ?_
    refine WC.seq ?_
    refine WC.region ?_
    refine SL.pure rfl rfl rfl (PureOp.loads (vs := [.int .i64 32000, .int .i64 5000, .int .i64 8000, .int .i64 0]) Try.underlying70 rfl rfl (fun _ => (RowIs.cells 2 0 4 rfl rfl)) sz70) ?_
    refine SL.pure rfl rfl rfl (PureOp.build bld70 rfl rfl) ?_
    refine SL.pure rfl rfl rfl (PureOp.eqla rfl rfl flat70 rfl) ?_
    refine SL.pure rfl rfl rfl (PureOp.move rfl) ?_
    refine SL.newg 61 true rfl ?_
    refine SL.gpure (c := 1) rfl rfl rfl rfl rfl rfl rfl (PureOp.move rfl) ?_
    refine SL.gpure (c := 1) rfl rfl rfl rfl rfl rfl rfl (PureOp.eql rfl rfl) ?_
    refine SL.pure rfl rfl rfl (PureOp.and_ rfl rfl rfl rfl) ?_
    refine SL.pure rfl rfl rfl (PureOp.move rfl) ?_
    refine SL.newg 65 true rfl ?_
    refine SL.gpure (c := 2) rfl rfl rfl rfl rfl rfl rfl (PureOp.loads (vs := [.int .i64 32000, .int .i64 5000, .int .i64 0, .int .i64 7000]) Try.underlying70 rfl rfl (fun _ => (RowIs.cells 5 0 4 rfl rfl)) sz70) ?_
    refine SL.gpure (c := 2) rfl rfl rfl rfl rfl rfl rfl (PureOp.build bld70 rfl rfl) ?_
    refine SL.gpure (c := 2) rfl rfl rfl rfl rfl rfl rfl (PureOp.eqla rfl rfl flat70 rfl) ?_
    refine SL.pure rfl rfl rfl (PureOp.and_ rfl rfl rfl rfl) ?_
    refine SL.pure rfl rfl rfl (PureOp.move rfl) ?_
    refine SL.newg 70 true rfl ?_
    refine SL.gpure (c := 3) rfl rfl rfl rfl rfl rfl rfl (PureOp.move rfl) ?_
    refine SL.gpure (c := 3) rfl rfl rfl rfl rfl rfl rfl (PureOp.eql rfl rfl) ?_
    refine SL.pure rfl rfl rfl (PureOp.and_ rfl rfl rfl rfl) ?_
    refine SL.pure rfl rfl rfl (PureOp.move rfl) ?_
    refine SL.newg 74 true rfl ?_
    refine SL.gpure (c := 4) rfl rfl rfl rfl rfl rfl rfl (PureOp.move rfl) ?_
    refine SL.gpure (c := 4) rfl rfl rfl rfl rfl rfl rfl (PureOp.eql rfl rfl) ?_
    refine SL.pure rfl rfl rfl (PureOp.and_ rfl rfl rfl rfl) ?_
    refine SL.pure rfl rfl rfl (PureOp.move rfl) ?_
    refine SL.newg 78 true rfl ?_
    refine SL.gpure (c := 5) rfl rfl rfl rfl rfl rfl rfl (PureOp.fieldAddrT 5 Try.underlying27 rfl sz24 rfl rfl) ?_
    refine SL.gpure (c := 5) rfl rfl rfl rfl rfl rfl rfl (PureOp.load (v := .slice ya 2 yc) Try.underlying24 rfl rfl (fun _ => (CellIs.cells 9 rfl rfl))) ?_
    refine SL.gpure (c := 5) rfl rfl rfl rfl rfl rfl rfl (PureOp.indexAddr Try.underlying24 sz65 rfl rfl (AoOk.own 8 rfl) (by intro hg; simp [gval] at hg; first | omega | decide)) ?_
    refine SL.gpure (c := 5) rfl rfl rfl rfl rfl rfl rfl (PureOp.fieldAddr 9 Try.underlying65 rfl rfl sz3 rfl) ?_
    refine SL.gpure (c := 5) rfl rfl rfl rfl rfl rfl rfl (PureOp.load (v := .int .i64 6) Try.underlying3 rfl rfl (by intro hg; simp [gval] at hg; exact (CellIs.ownc 8 rfl ((0 : Int).toNat) 9 (by rfl)))) ?_
    refine SL.gpure (c := 5) rfl rfl rfl rfl rfl rfl rfl (PureOp.eql rfl rfl) ?_
    refine SL.pure rfl rfl rfl (PureOp.and_ rfl rfl rfl rfl) ?_
    refine SL.pure rfl rfl rfl (PureOp.move rfl) ?_
    refine SL.newg 86 true rfl ?_
    refine SL.gpure (c := 6) rfl rfl rfl rfl rfl rfl rfl (PureOp.fieldAddrT 5 Try.underlying27 rfl sz24 rfl rfl) ?_
    refine SL.gpure (c := 6) rfl rfl rfl rfl rfl rfl rfl (PureOp.load (v := .slice ya 2 yc) Try.underlying24 rfl rfl (fun _ => (CellIs.cells 9 rfl rfl))) ?_
    refine SL.gpure (c := 6) rfl rfl rfl rfl rfl rfl rfl (PureOp.indexAddr Try.underlying24 sz65 rfl rfl (AoOk.own 8 rfl) (by intro hg; simp [gval] at hg; first | omega | decide)) ?_
    refine SL.gpure (c := 6) rfl rfl rfl rfl rfl rfl rfl (PureOp.fieldAddr 9 Try.underlying65 rfl rfl sz3 rfl) ?_
    refine SL.gpure (c := 6) rfl rfl rfl rfl rfl rfl rfl (PureOp.load (v := .int .i64 6) Try.underlying3 rfl rfl (by intro hg; simp [gval] at hg; exact (CellIs.ownc 8 rfl ((1 : Int).toNat) 9 (by rfl)))) ?_
    refine SL.gpure (c := 6) rfl rfl rfl rfl rfl rfl rfl (PureOp.eql rfl rfl) ?_
    refine SL.pure rfl rfl rfl (PureOp.and_ rfl rfl rfl rfl) ?_
    refine SL.pure rfl rfl rfl (PureOp.move rfl) ?_
    refine SL.newg 94 true rfl ?_
    refine SL.gpure (c := 7) rfl rfl rfl rfl rfl rfl rfl (PureOp.move rfl) ?_
    refine SL.gpure (c := 7) rfl rfl rfl rfl rfl rfl rfl (PureOp.eql rfl rfl) ?_
    refine SL.pure rfl rfl rfl (PureOp.and_ rfl rfl rfl rfl) ?_
    refine SL.pure rfl rfl rfl (PureOp.move rfl) ?_
    refine SL.newg 98 true rfl ?_
    refine SL.gpure (c := 8) rfl rfl rfl rfl rfl rfl rfl (PureOp.move rfl) ?_
    refine SL.gpure (c := 8) rfl rfl rfl rfl rfl rfl rfl (PureOp.eql rfl rfl) ?_
    refine SL.pure rfl rfl rfl (PureOp.and_ rfl rfl rfl rfl) ?_
    refine SL.pure rfl rfl rfl (PureOp.move rfl) ?_
    refine SL.newg 102 true rfl ?_
    refine SL.gpure (c := 9) rfl rfl rfl rfl rfl rfl rfl (PureOp.move rfl) ?_
    refine SL.gpure (c := 9) rfl rfl rfl rfl rfl rfl rfl (PureOp.eql rfl rfl) ?_
    refine SL.pure rfl rfl rfl (PureOp.and_ rfl rfl rfl rfl) ?_
    refine SL.pure rfl rfl rfl (PureOp.assign rfl) ?_
    refine SL.nil_then ?_
    refine WC.ret ?_
    refine QX.ret1 rfl rfl ?_
    intro w hw
    rfl

end Go.Proofs.Ytipmdakhmpaemaa
