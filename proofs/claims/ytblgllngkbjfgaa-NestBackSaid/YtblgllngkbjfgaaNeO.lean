import Derived.Test.YtblgllngkbjfgaaNeN
namespace Go.Proofs.Ytblgllngkbjfgaa
open Go Go.RowKit Eng
set_option linter.unusedVariables false
set_option linter.unusedSimpArgs false

set_option maxHeartbeats 4000000 in
set_option maxRecDepth 100000 in
theorem awake_ok (w0 : World) : FnC Try.prog 9 [] w0 fun v w' => v = .bool true := by
  refine fnc (N := 51) Try.func9 rfl rfl rfl ?_
  refine WC.seq ?_
  refine WC.region ?_
  refine SL.pure rfl rfl rfl (PureOp.assign rfl) ?_
  refine SL.nil_then ?_
  refine WC.seq ?_
  refine WC.region ?_
  refine SL.pure rfl rfl rfl (PureOp.build bld47 rfl rfl) ?_
  refine SL.pure rfl rfl rfl (PureOp.build bld47 rfl rfl) ?_
  refine SL.buildSlice rfl rfl Try.underlying22 elem47 rfl rfl rfl rfl (fun b1 hb1 => ?_)
  refine SL.pure rfl rfl rfl (PureOp.build bld24 rfl rfl) ?_
  refine SL.alloc rfl rfl zero24 (fun b2 hb2 => ?_)
  refine SL.store 1 rfl rfl rfl rfl sz24 rfl rfl ?_
  refine SL.nil_then ?_
  refine WC.seq ?_
  refine WC.region ?_
  refine SL.pure rfl rfl rfl (PureOp.loads (vs := [.string (⟨#[89]⟩), .int .i64 10, .int .i64 1, .slice (some ⟨b1, 0, none⟩) 2 2]) Try.underlying24 rfl rfl (fun _ => (RowIs.cells 1 0 4 rfl rfl)) sz24) ?_
  refine SL.buildSlice rfl rfl Try.underlying25 elem3 rfl rfl rfl rfl (fun b3 hb3 => ?_)
  refine SL.callo (fun sa sc => .tuple #[.slice sa 2 sc, .int .i64 0]) rfl rfl rfl rfl rfl rfl callable17 (fun w hw => (by have h := Sell_ok ⟨#[89]⟩ 10 1 cl0 _ 2 2 rfl (by decide) [4, 5] _ 2 2 rfl (by decide) w (SliceIn.rows (enc := encI) (l := [4, 5]) (hw.mem (i := 2) rfl) encI_len (by decide)) (SliceIn.rows (enc := enc47) (l := cl0) (hw.mem (i := 0) rfl) enc47_len (by decide)) rt0 1 2 (by decide); rw [k0a.1, k0a.2] at h; exact h)) (fun sa sc => ?_)
  refine SL.pure rfl rfl rfl (PureOp.move rfl) ?_
  refine SL.pure rfl rfl rfl (PureOp.extract rfl rfl) ?_
  refine SL.pure rfl rfl rfl (PureOp.extract rfl rfl) ?_
  refine SL.pure rfl rfl rfl (PureOp.assign rfl) ?_
  refine SL.pure rfl rfl rfl (PureOp.assign rfl) ?_
  refine SL.nil_then ?_
  refine WC.seq ?_
  refine WC.region ?_
  refine SL.pure rfl rfl rfl (PureOp.loads (vs := [.string (⟨#[89]⟩), .int .i64 10, .int .i64 1, .slice (some ⟨b1, 0, none⟩) 2 2]) Try.underlying24 rfl rfl (fun _ => (RowIs.cells 1 0 4 rfl rfl)) sz24) ?_
  refine SL.buildSlice rfl rfl Try.underlying25 elem3 rfl rfl rfl rfl (fun b4 hb4 => ?_)
  refine SL.callo (fun ta tc => .tuple #[.slice ta 0 tc, .int .i64 17]) rfl rfl rfl rfl rfl rfl callable17 (fun w hw => (by have h := Sell_ok ⟨#[89]⟩ 10 1 cl0 _ 2 2 rfl (by decide) [4, 5] _ 2 2 rfl (by decide) w (SliceIn.rows (enc := encI) (l := [4, 5]) (hw.mem (i := 4) rfl) encI_len (by decide)) (SliceIn.rows (enc := enc47) (l := cl0) (hw.mem (i := 0) rfl) enc47_len (by decide)) rt0 1 3 (by decide); rw [k0b.1, k0b.2] at h; exact h)) (fun ta tc => ?_)
  refine SL.pure rfl rfl rfl (PureOp.move rfl) ?_
  refine SL.pure rfl rfl rfl (PureOp.extract rfl rfl) ?_
  refine SL.pure rfl rfl rfl (PureOp.extract rfl rfl) ?_
  refine SL.pure rfl rfl rfl (PureOp.assign rfl) ?_
  refine SL.pure rfl rfl rfl (PureOp.assign rfl) ?_
  refine SL.nil_then ?_
  refine WC.seq ?_
  refine WC.region ?_
  refine SL.pure rfl rfl rfl (PureOp.loads (vs := [.string (⟨#[89]⟩), .int .i64 10, .int .i64 1, .slice (some ⟨b1, 0, none⟩) 2 2]) Try.underlying24 rfl rfl (fun _ => (RowIs.cells 1 0 4 rfl rfl)) sz24) ?_
  refine SL.buildSlice rfl rfl Try.underlying25 elem3 rfl rfl rfl rfl (fun b5 hb5 => ?_)
  refine SL.callo (fun oa oc => .slice oa 2 oc) rfl rfl rfl rfl rfl rfl callable11 (fun w hw => (by have h := open_ok ⟨#[89]⟩ 10 1 cl0 _ 2 2 rfl (by decide) [0, 8] _ 2 2 rfl (by decide) w (SliceIn.rows (enc := encI) (l := [0, 8]) (hw.mem (i := 6) rfl) encI_len (by decide)) (SliceIn.rows (enc := enc47) (l := cl0) (hw.mem (i := 0) rfl) enc47_len (by decide)) rt0; rw [k0c] at h; exact h)) (fun oa oc => ?_)
  refine SL.buildSlice rfl rfl Try.underlying25 elem3 rfl rfl rfl rfl (fun b6 hb6 => ?_)
  refine SL.calle rfl rfl rfl rfl rfl rfl callable10 (fun w hw => same_ok [3, 0] _ _ 2 2 _ _ rfl rfl w (SliceIn.rows (enc := encI) (l := [3, 0]) (hw.mem (i := 7) rfl) encI_len (by decide)) (SliceIn.rows (enc := encI) (l := [3, 0]) (hw.mem (i := 8) rfl) encI_len (by decide)) (by decide)) ?_
  refine SL.pure rfl rfl rfl (PureOp.move rfl) ?_
  refine SL.ung rfl rfl rfl rfl ?_
  refine SL.pure rfl rfl rfl (PureOp.move rfl) ?_
  refine SL.ung rfl rfl rfl rfl ?_
  refine SL.buildSlice rfl rfl Try.underlying25 elem3 rfl rfl rfl rfl (fun b7 hb7 => ?_)
  refine SL.ung rfl rfl rfl rfl ?_
  refine SL.calle rfl rfl rfl rfl rfl rfl callable10 (fun w hw => same_ok [4, 7] _ _ 2 2 _ _ rfl rfl w (SliceIn.rows (enc := encI) (l := [4, 7]) (hw.mem (i := 3) rfl) encI_len (by decide)) (SliceIn.rows (enc := encI) (l := [4, 7]) (hw.mem (i := 9) rfl) encI_len (by decide)) (by decide)) ?_
  refine SL.pure rfl rfl rfl (PureOp.pickT rfl rfl) ?_
  refine SL.pure rfl rfl rfl (PureOp.move rfl) ?_
  refine SL.ung rfl rfl rfl rfl ?_
  refine SL.pure rfl rfl rfl (PureOp.move rfl) ?_
  refine SL.ung rfl rfl rfl rfl ?_
  refine SL.pure rfl rfl rfl (PureOp.eql rfl rfl) ?_
  refine SL.lit 34 true rfl (by decide) ?_
  refine SL.pure rfl rfl rfl (PureOp.pickT rfl rfl) ?_
  refine SL.pure rfl rfl rfl (PureOp.move rfl) ?_
  refine SL.ung rfl rfl rfl rfl ?_
  refine SL.pure rfl rfl rfl (PureOp.move rfl) ?_
  refine SL.ung rfl rfl rfl rfl ?_
  refine SL.pure rfl rfl rfl (PureOp.eql rfl rfl) ?_
  refine SL.lit 38 true rfl (by decide) ?_
  refine SL.pure rfl rfl rfl (PureOp.pickT rfl rfl) ?_
  refine SL.pure rfl rfl rfl (PureOp.move rfl) ?_
  refine SL.ung rfl rfl rfl rfl ?_
  refine SL.pure rfl rfl rfl (PureOp.loads (vs := [.string (⟨#[89]⟩), .int .i64 10, .int .i64 1, .slice (some ⟨b1, 0, none⟩) 2 2]) Try.underlying24 rfl rfl (fun _ => (RowIs.cells 1 0 4 rfl rfl)) sz24) ?_
  refine SL.ung rfl rfl rfl rfl ?_
  refine SL.buildSlice rfl rfl Try.underlying25 elem3 rfl rfl rfl rfl (fun b8 hb8 => ?_)
  refine SL.ung rfl rfl rfl rfl ?_
  refine SL.calle rfl rfl rfl rfl rfl rfl callable15 (fun w hw => (by have h := excess_ok ⟨#[89]⟩ 10 1 cl0 _ 2 2 rfl (by decide) [4, 9] _ 2 2 rfl (by decide) w (SliceIn.rows (enc := encI) (l := [4, 9]) (hw.mem (i := 10) rfl) encI_len (by decide)) (SliceIn.rows (enc := enc47) (l := cl0) (hw.mem (i := 0) rfl) enc47_len (by decide)) rt0; rw [k0d.1] at h; exact h)) ?_
  refine SL.ung rfl rfl rfl rfl ?_
  refine SL.pure rfl rfl rfl (PureOp.eql rfl rfl) ?_
  refine SL.lit 44 true rfl (by decide) ?_
  refine SL.pure rfl rfl rfl (PureOp.pickT rfl rfl) ?_
  refine SL.pure rfl rfl rfl (PureOp.move rfl) ?_
  refine SL.ung rfl rfl rfl rfl ?_
  refine SL.pure rfl rfl rfl (PureOp.loads (vs := [.string (⟨#[89]⟩), .int .i64 10, .int .i64 1, .slice (some ⟨b1, 0, none⟩) 2 2]) Try.underlying24 rfl rfl (fun _ => (RowIs.cells 1 0 4 rfl rfl)) sz24) ?_
  refine SL.ung rfl rfl rfl rfl ?_
  refine SL.pure rfl rfl rfl (PureOp.move rfl) ?_
  refine SL.ung rfl rfl rfl rfl ?_
  refine SL.calle rfl rfl rfl rfl rfl rfl callable13 (fun w hw => (by have h := fits_ok ⟨#[89]⟩ 10 1 cl0 _ 2 2 rfl (by decide) [4, 7] _ 2 sc rfl (by decide) w (SliceIn.rows (enc := encI) (l := [4, 7]) (hw.mem (i := 3) rfl) encI_len (by decide)) (SliceIn.rows (enc := enc47) (l := cl0) (hw.mem (i := 0) rfl) enc47_len (by decide)) rt0; rw [k0d.2] at h; exact h)) ?_
  refine SL.pure rfl rfl rfl (PureOp.pickT rfl rfl) ?_
  refine SL.pure rfl rfl rfl (PureOp.assign rfl) ?_
  refine SL.nil_then ?_
  refine WC.ret ?_
  refine QX.ret1 rfl rfl ?_
  intro w hw
  rfl

end Go.Proofs.Ytblgllngkbjfgaa
