import Derived.Test.YthbgnjengkjigaaBdI
namespace Go.Proofs.Ythbgnjengkjigaa
open Go Go.RowKit Eng
set_option linter.unusedVariables false
set_option linter.unusedSimpArgs false

set_option maxHeartbeats 4000000 in
set_option maxRecDepth 100000 in
theorem knows_ok (w0 : World) : FnC Try.prog 8 [] w0 fun v w' => v = .bool true := by
  refine fnc (N := 116) Try.func8 rfl rfl rfl ?_
  refine WC.seq ?_
  refine WC.region ?_
  refine SL.pure rfl rfl rfl (PureOp.assign rfl) ?_
  refine SL.nil_then ?_
  refine WC.seq ?_
  refine WC.region ?_
  refine SL.buildSlice rfl rfl Try.underlying22 elem3 rfl rfl rfl rfl (fun b1 hb1 => ?_)
  refine SL.norm [_] rfl ?_
  refine SL.buildSlice rfl rfl Try.underlying22 elem3 rfl rfl rfl rfl (fun b2 hb2 => ?_)
  refine SL.norm [_, _] rfl ?_
  refine SL.callM [0, 1] rfl rfl rfl rfl rfl rfl callable7 (by decide) (pnewo [7, 8] [1, 30] _ _ 2 2 2 2 rfl rfl (Nat.le_refl _) (by decide) w0) rfl (fun _ _ => rfl) ?_
  rintro ⟨b, ⟨ta, tc⟩, ⟨ra, rc⟩, ab⟩ hb0
  refine SL.addnil 47 3 ?_
  refine SL.norm [_, _, _, _, _, _, _] rfl ?_
  refine SL.pure rfl rfl rfl (PureOp.move rfl) ?_
  refine SL.pure rfl rfl rfl (PureOp.extract rfl rfl) ?_
  refine SL.pure rfl rfl rfl (PureOp.extract rfl rfl) ?_
  refine SL.pure rfl rfl rfl (PureOp.assign rfl) ?_
  refine SL.pure rfl rfl rfl (PureOp.assign rfl) ?_
  refine SL.nil_then ?_
  refine WC.seq ?_
  refine WC.seq ?_
  refine WC.region ?_
  refine SL.pure rfl rfl rfl (PureOp.move rfl) ?_
  refine SL.pure rfl rfl rfl (PureOp.neq rfl rfl) ?_
  refine SL.lit 22 false rfl (by decide) ?_
  refine SL.nil_then ?_
  refine WC.condF rfl ?_
  refine WC.skip ?_
  refine QX.then_ ?_
  refine WC.seq ?_
  refine WC.region ?_
  refine SL.pure rfl rfl rfl (PureOp.move rfl) ?_
  refine SL.pure rfl rfl rfl (PureOp.build bld47 rfl rfl) ?_
  refine SL.callM [2, 3, 4, 5, 6] rfl rfl rfl rfl rfl rfl callable21 (by decide) (kload b ta ra (some ⟨ab, 0, none⟩) none tc rc 2 0 w0) rfl (fun _ _ => rfl) ?_
  rintro ⟨ga1, gc1⟩ _
  refine SL.norm [_, _, _, _, _, _, _] rfl ?_
  refine SL.pure rfl rfl rfl (PureOp.assign rfl) ?_
  refine SL.nil_then ?_
  refine WC.seq ?_
  refine WC.region ?_
  refine SL.pure rfl rfl rfl (PureOp.move rfl) ?_
  refine SL.callM [2, 3, 4, 5, 6] rfl rfl rfl rfl rfl rfl callable22 (by decide) (kboard b ta ra (some ⟨ab, 0, none⟩) ga1 tc rc 2 gc1 w0) rfl (fun _ _ => rfl) ?_
  rintro ⟨ga2, gc2⟩ _
  refine SL.norm [_, _, _, _, _, _, _] rfl ?_
  refine SL.pure rfl rfl rfl (PureOp.assign rfl) ?_
  refine SL.nil_then ?_
  refine WC.seq ?_
  refine WC.region ?_
  refine SL.pure rfl rfl rfl (PureOp.move rfl) ?_
  refine SL.callo (fun ma mc => .slice ma 1 mc) rfl rfl rfl rfl rfl rfl callable14 (fun w hw => (by have h := pmiss_ok b [7, 8] [1, 30] [false, true] false ([((5, 7, 20) : Bag)]) ta ra (some ⟨ab, 0, none⟩) ga2 2 tc rc 2 gc2 made78 rfl rfl (by decide) rfl known1 (by decide)  w (ObjIn.of hw 2 rfl) (SliceIn.rows (l := [7, 8]) (hw.mem (i := 3) rfl) encI_len (by decide)) (SliceIn.rows (l := [1, 30]) (hw.mem (i := 4) rfl) encI_len (by decide)) (SliceIn.rows (l := [false, true]) (hw.mem (i := 5) rfl) encBo_len (by decide)) (SliceIn.rows (l := [((5, 7, 20) : Bag)]) (hw.mem (i := 6) rfl) encBag_len (by decide)); have e : missL [7, 8] [false, true] [(5, 7, 20)] = [(5, 7, 20)] := (by decide); rw [e] at h; exact h)) (fun ma mc => ?_)
  refine SL.norm [_, _, _, _, _, _, _, _] rfl ?_
  refine SL.pure rfl rfl rfl (PureOp.assign rfl) ?_
  refine SL.nil_then ?_
  refine WC.seq ?_
  refine WC.region ?_
  refine SL.pure rfl rfl rfl (PureOp.move rfl) ?_
  refine SL.callM [2, 3, 4, 5, 6] rfl rfl rfl rfl rfl rfl callable20 (by decide) (kclose1 b ta ra (some ⟨ab, 0, none⟩) ga2 tc rc 2 gc2 w0) rfl (fun _ _ => rfl) ?_
  rintro ⟨⟨ga3, gc3⟩, ⟨la3, lc3⟩⟩ _
  refine SL.norm [_, _, _, _, _, _, _, _, _] rfl ?_
  refine SL.pure rfl rfl rfl (PureOp.move rfl) ?_
  refine SL.pure rfl rfl rfl (PureOp.extract rfl rfl) ?_
  refine SL.pure rfl rfl rfl (PureOp.extract rfl rfl) ?_
  refine SL.pure rfl rfl rfl (PureOp.assign rfl) ?_
  refine SL.pure rfl rfl rfl (PureOp.assign rfl) ?_
  refine SL.nil_then ?_
  refine WC.seq ?_
  refine WC.region ?_
  refine SL.pure rfl rfl rfl (PureOp.move rfl) ?_
  refine SL.callo (fun wa wc => .slice wa 1 wc) rfl rfl rfl rfl rfl rfl callable17 (fun w hw => (by have h := pwait_ok b [7, 8] [1, 30] [false, true] false ([((5, 7, 20) : Bag)]) ta ra (some ⟨ab, 0, none⟩) ga3 2 tc rc 2 gc3 made78 rfl rfl (by decide) rfl known1 (by decide)  w (ObjIn.of hw 2 rfl) (SliceIn.rows (l := [7, 8]) (hw.mem (i := 3) rfl) encI_len (by decide)) (SliceIn.rows (l := [1, 30]) (hw.mem (i := 4) rfl) encI_len (by decide)) (SliceIn.rows (l := [false, true]) (hw.mem (i := 5) rfl) encBo_len (by decide)) (SliceIn.rows (l := [((5, 7, 20) : Bag)]) (hw.mem (i := 6) rfl) encBag_len (by decide)); have e : listL [7, 8] [false, true] false 2 = [7] := (by decide); rw [e] at h; exact h)) (fun wa wc => ?_)
  refine SL.norm [_, _, _, _, _, _, _, _, _, _] rfl ?_
  refine SL.pure rfl rfl rfl (PureOp.assign rfl) ?_
  refine SL.nil_then ?_
  refine WC.seq ?_
  refine WC.region ?_
  refine SL.pure rfl rfl rfl (PureOp.move rfl) ?_
  refine SL.callM [2, 3, 4, 5, 6] rfl rfl rfl rfl rfl rfl callable19 (by decide) (kun1 b ta ra (some ⟨ab, 0, none⟩) ga3 tc rc 2 gc3 w0) rfl (fun _ _ => rfl) ?_
  rintro ⟨ga4, gc4⟩ _
  refine SL.norm [_, _, _, _, _, _, _, _, _, _] rfl ?_
  refine SL.pure rfl rfl rfl (PureOp.move rfl) ?_
  refine SL.pure rfl rfl rfl (PureOp.extract rfl rfl) ?_
  refine SL.pure rfl rfl rfl (PureOp.extract rfl rfl) ?_
  refine SL.alloc rfl rfl zero47 (fun b3 hb3 => ?_)
  refine SL.norm [_, _, _, _, _, _, _, _, _, _, _] rfl ?_
  refine SL.store 10 rfl rfl rfl rfl sz47 rfl rfl ?_
  refine SL.norm [_, _, _, _, _, _, _, _, _, _, _] rfl ?_
  refine SL.pure rfl rfl rfl (PureOp.assign rfl) ?_
  refine SL.nil_then ?_
  refine WC.seq ?_
  refine WC.region ?_
  refine SL.pure rfl rfl rfl (PureOp.move rfl) ?_
  refine SL.callM [2, 3, 4, 5, 6] rfl rfl rfl rfl rfl rfl callable19 (by decide) (kun2 b ta ra (some ⟨ab, 0, none⟩) ga4 tc rc 2 gc4 w0) rfl (fun _ _ => rfl) ?_
  rintro ⟨ga5, gc5⟩ _
  refine SL.norm [_, _, _, _, _, _, _, _, _, _, _] rfl ?_
  refine SL.pure rfl rfl rfl (PureOp.move rfl) ?_
  refine SL.pure rfl rfl rfl (PureOp.extract rfl rfl) ?_
  refine SL.pure rfl rfl rfl (PureOp.extract rfl rfl) ?_
  refine SL.alloc rfl rfl zero47 (fun b4 hb4 => ?_)
  refine SL.norm [_, _, _, _, _, _, _, _, _, _, _, _] rfl ?_
  refine SL.store 11 rfl rfl rfl rfl sz47 rfl rfl ?_
  refine SL.norm [_, _, _, _, _, _, _, _, _, _, _, _] rfl ?_
  refine SL.pure rfl rfl rfl (PureOp.assign rfl) ?_
  refine SL.nil_then ?_
  refine WC.seq ?_
  refine WC.region ?_
  refine SL.pure rfl rfl rfl (PureOp.move rfl) ?_
  refine SL.callM [2, 3, 4, 5, 6] rfl rfl rfl rfl rfl rfl callable20 (by decide) (kclose2 b ta ra (some ⟨ab, 0, none⟩) ga5 tc rc 2 gc5 w0) rfl (fun _ _ => rfl) ?_
  rintro ⟨⟨ga6, gc6⟩, ⟨la6, lc6⟩⟩ _
  refine SL.norm [_, _, _, _, _, _, _, _, _, _, _, _, _] rfl ?_
  refine SL.pure rfl rfl rfl (PureOp.move rfl) ?_
  refine SL.pure rfl rfl rfl (PureOp.extract rfl rfl) ?_
  refine SL.pure rfl rfl rfl (PureOp.extract rfl rfl) ?_
  refine SL.pure rfl rfl rfl (PureOp.assign rfl) ?_
  refine SL.pure rfl rfl rfl (PureOp.assign rfl) ?_
  refine SL.nil_then ?_
  refine WC.seq ?_
  refine WC.region ?_
  refine SL.pure rfl rfl rfl (PureOp.move rfl) ?_
  refine SL.pure rfl rfl rfl (PureOp.eql rfl rfl) ?_
  refine SL.lit 53 true rfl (by decide) ?_
  refine SL.pure rfl rfl rfl (PureOp.move rfl) ?_
  refine SL.ung rfl rfl rfl rfl ?_
  refine SL.pure rfl rfl rfl (PureOp.move rfl) ?_
  refine SL.ung rfl rfl rfl rfl ?_
  refine SL.pure rfl rfl rfl (PureOp.eql rfl rfl) ?_
  refine SL.lit 56 true rfl (by decide) ?_
  refine SL.pure rfl rfl rfl (PureOp.pickT rfl rfl) ?_
  refine SL.pure rfl rfl rfl (PureOp.move rfl) ?_
  refine SL.ung rfl rfl rfl rfl ?_
  refine SL.pure rfl rfl rfl (PureOp.move rfl) ?_
  refine SL.ung rfl rfl rfl rfl ?_
  refine SL.pure rfl rfl rfl (PureOp.len rfl Try.underlying38) ?_
  refine SL.ung rfl rfl rfl rfl ?_
  refine SL.pure rfl rfl rfl (PureOp.eql rfl rfl) ?_
  refine SL.lit 61 true rfl (by decide) ?_
  refine SL.pure rfl rfl rfl (PureOp.pickT rfl rfl) ?_
  refine SL.pure rfl rfl rfl (PureOp.move rfl) ?_
  refine SL.ung rfl rfl rfl rfl ?_
  refine SL.pure rfl rfl rfl (PureOp.move rfl) ?_
  refine SL.ung rfl rfl rfl rfl ?_
  refine SL.pure rfl rfl rfl (PureOp.indexAddr Try.underlying38 sz47 rfl rfl (AoOk.own 7 rfl) (fun _ => by first | omega | decide)) ?_
  refine SL.ung rfl rfl rfl rfl ?_
  refine SL.pure rfl rfl rfl (PureOp.fieldAddr 0 Try.underlying47 rfl rfl sz3 rfl) ?_
  refine SL.ung rfl rfl rfl rfl ?_
  refine SL.pure rfl rfl rfl (PureOp.load (v := .int .i64 5) Try.underlying3 rfl rfl (fun _ => (CellIs.ownc 7 rfl ((0 : Int).toNat) 0 (by rfl)))) ?_
  refine SL.ung rfl rfl rfl rfl ?_
  refine SL.pure rfl rfl rfl (PureOp.eql rfl rfl) ?_
  refine SL.lit 68 true rfl (by decide) ?_
  refine SL.pure rfl rfl rfl (PureOp.pickT rfl rfl) ?_
  refine SL.pure rfl rfl rfl (PureOp.move rfl) ?_
  refine SL.ung rfl rfl rfl rfl ?_
  refine SL.pure rfl rfl rfl (PureOp.move rfl) ?_
  refine SL.ung rfl rfl rfl rfl ?_
  refine SL.pure rfl rfl rfl (PureOp.eql rfl rfl) ?_
  refine SL.lit 72 true rfl (by decide) ?_
  refine SL.pure rfl rfl rfl (PureOp.pickT rfl rfl) ?_
  refine SL.pure rfl rfl rfl (PureOp.move rfl) ?_
  refine SL.ung rfl rfl rfl rfl ?_
  refine SL.pure rfl rfl rfl (PureOp.move rfl) ?_
  refine SL.ung rfl rfl rfl rfl ?_
  refine SL.buildSlice rfl rfl Try.underlying22 elem3 rfl rfl rfl rfl (fun b5 hb5 => ?_)
  refine SL.norm [_, _, _, _, _, _, _, _, _, _, _, _, _, _] rfl ?_
  refine SL.ung rfl rfl rfl rfl ?_
  refine SL.calle rfl rfl rfl rfl rfl rfl callable16 (fun w hw => samei_ok [7] _ _ _ _ _ _ rfl rfl w (SliceIn.rows (hw.mem (i := 9) rfl) encI_len (by decide)) (SliceIn.rows (hw.mem (i := 13) rfl) encI_len (by decide)) (by decide)) ?_
  refine SL.norm [_, _, _, _, _, _, _, _, _, _, _, _, _, _] rfl ?_
  refine SL.pure rfl rfl rfl (PureOp.pickT rfl rfl) ?_
  refine SL.pure rfl rfl rfl (PureOp.move rfl) ?_
  refine SL.ung rfl rfl rfl rfl ?_
  refine SL.pure rfl rfl rfl (PureOp.fieldAddrT 2 Try.underlying47 rfl sz3 rfl rfl) ?_
  refine SL.ung rfl rfl rfl rfl ?_
  refine SL.pure rfl rfl rfl (PureOp.load (v := .int .i64 20) Try.underlying3 rfl rfl (fun _ => (CellIs.cells 10 rfl rfl))) ?_
  refine SL.ung rfl rfl rfl rfl ?_
  refine SL.pure rfl rfl rfl (PureOp.eql rfl rfl) ?_
  refine SL.lit 82 true rfl (by decide) ?_
  refine SL.pure rfl rfl rfl (PureOp.pickT rfl rfl) ?_
  refine SL.pure rfl rfl rfl (PureOp.move rfl) ?_
  refine SL.ung rfl rfl rfl rfl ?_
  refine SL.pure rfl rfl rfl (PureOp.move rfl) ?_
  refine SL.ung rfl rfl rfl rfl ?_
  refine SL.pure rfl rfl rfl (PureOp.eql rfl rfl) ?_
  refine SL.lit 86 true rfl (by decide) ?_
  refine SL.pure rfl rfl rfl (PureOp.pickT rfl rfl) ?_
  refine SL.pure rfl rfl rfl (PureOp.move rfl) ?_
  refine SL.ung rfl rfl rfl rfl ?_
  refine SL.pure rfl rfl rfl (PureOp.move rfl) ?_
  refine SL.ung rfl rfl rfl rfl ?_
  refine SL.pure rfl rfl rfl (PureOp.eql rfl rfl) ?_
  refine SL.lit 90 true rfl (by decide) ?_
  refine SL.pure rfl rfl rfl (PureOp.pickT rfl rfl) ?_
  refine SL.pure rfl rfl rfl (PureOp.move rfl) ?_
  refine SL.ung rfl rfl rfl rfl ?_
  refine SL.pure rfl rfl rfl (PureOp.move rfl) ?_
  refine SL.ung rfl rfl rfl rfl ?_
  refine SL.buildSlice rfl rfl Try.underlying22 elem3 rfl rfl rfl rfl (fun b6 hb6 => ?_)
  refine SL.norm [_, _, _, _, _, _, _, _, _, _, _, _, _, _, _] rfl ?_
  refine SL.ung rfl rfl rfl rfl ?_
  refine SL.calle rfl rfl rfl rfl rfl rfl callable16 (fun w hw => samei_ok [8] _ _ _ _ _ _ rfl rfl w (SliceIn.rows (hw.mem (i := 12) rfl) encI_len (by decide)) (SliceIn.rows (hw.mem (i := 14) rfl) encI_len (by decide)) (by decide)) ?_
  refine SL.norm [_, _, _, _, _, _, _, _, _, _, _, _, _, _, _] rfl ?_
  refine SL.pure rfl rfl rfl (PureOp.pickT rfl rfl) ?_
  refine SL.pure rfl rfl rfl (PureOp.move rfl) ?_
  refine SL.ung rfl rfl rfl rfl ?_
  refine SL.pure rfl rfl rfl (PureOp.move rfl) ?_
  refine SL.ung rfl rfl rfl rfl ?_
  refine SL.pure rfl rfl rfl (PureOp.eql rfl rfl) ?_
  refine SL.lit 99 true rfl (by decide) ?_
  refine SL.pure rfl rfl rfl (PureOp.pickT rfl rfl) ?_
  refine SL.pure rfl rfl rfl (PureOp.move rfl) ?_
  refine SL.ung rfl rfl rfl rfl ?_
  refine SL.pure rfl rfl rfl (PureOp.move rfl) ?_
  refine SL.ung rfl rfl rfl rfl ?_
  refine SL.callM [2, 3, 4, 5, 6] rfl rfl rfl rfl rfl rfl callable22 (by decide) (kboard2 b ta ra (some ⟨ab, 0, none⟩) ga6 tc rc 2 gc6 w0) rfl (fun _ _ => rfl) ?_
  rintro ⟨ga7, gc7⟩ _
  refine SL.norm [_, _, _, _, _, _, _, _, _, _, _, _, _, _, _] rfl ?_
  refine SL.ung rfl rfl rfl rfl ?_
  refine SL.pure rfl rfl rfl (PureOp.eql rfl rfl) ?_
  refine SL.lit 104 true rfl (by decide) ?_
  refine SL.pure rfl rfl rfl (PureOp.pickT rfl rfl) ?_
  refine SL.pure rfl rfl rfl (PureOp.move rfl) ?_
  refine SL.ung rfl rfl rfl rfl ?_
  refine SL.pure rfl rfl rfl (PureOp.move rfl) ?_
  refine SL.ung rfl rfl rfl rfl ?_
  refine SL.calle rfl rfl rfl rfl rfl rfl callable9 (fun w hw => (by have h := pzone_ok b [7, 8] [1, 30] [false, true] true ([] : List Bag) ta ra (some ⟨ab, 0, none⟩) ga7 2 tc rc 2 gc7 made78 rfl rfl (by decide) rfl (known0 _) (by decide) 7 w (ObjIn.of hw 2 rfl) (SliceIn.rows (l := [7, 8]) (hw.mem (i := 3) rfl) encI_len (by decide)) (SliceIn.rows (l := [1, 30]) (hw.mem (i := 4) rfl) encI_len (by decide)) (SliceIn.rows (l := [false, true]) (hw.mem (i := 5) rfl) encBo_len (by decide)) (SliceIn.rows (l := ([] : List Bag)) (hw.mem (i := 6) rfl) encBag_len (by decide)); have e : zoneV [7, 8] [1, 30] 7 = 4 := (by decide); rw [e] at h; exact h)) ?_
  refine SL.norm [_, _, _, _, _, _, _, _, _, _, _, _, _, _, _] rfl ?_
  refine SL.ung rfl rfl rfl rfl ?_
  refine SL.pure rfl rfl rfl (PureOp.eql rfl rfl) ?_
  refine SL.lit 109 true rfl (by decide) ?_
  refine SL.pure rfl rfl rfl (PureOp.pickT rfl rfl) ?_
  refine SL.pure rfl rfl rfl (PureOp.move rfl) ?_
  refine SL.ung rfl rfl rfl rfl ?_
  refine SL.pure rfl rfl rfl (PureOp.move rfl) ?_
  refine SL.ung rfl rfl rfl rfl ?_
  refine SL.calle rfl rfl rfl rfl rfl rfl callable9 (fun w hw => (by have h := pzone_ok b [7, 8] [1, 30] [false, true] true ([] : List Bag) ta ra (some ⟨ab, 0, none⟩) ga7 2 tc rc 2 gc7 made78 rfl rfl (by decide) rfl (known0 _) (by decide) 8 w (ObjIn.of hw 2 rfl) (SliceIn.rows (l := [7, 8]) (hw.mem (i := 3) rfl) encI_len (by decide)) (SliceIn.rows (l := [1, 30]) (hw.mem (i := 4) rfl) encI_len (by decide)) (SliceIn.rows (l := [false, true]) (hw.mem (i := 5) rfl) encBo_len (by decide)) (SliceIn.rows (l := ([] : List Bag)) (hw.mem (i := 6) rfl) encBag_len (by decide)); have e : zoneV [7, 8] [1, 30] 8 = 1 := (by decide); rw [e] at h; exact h)) ?_
  refine SL.norm [_, _, _, _, _, _, _, _, _, _, _, _, _, _, _] rfl ?_
  refine SL.ung rfl rfl rfl rfl ?_
  refine SL.pure rfl rfl rfl (PureOp.eql rfl rfl) ?_
  refine SL.lit 114 true rfl (by decide) ?_
  refine SL.pure rfl rfl rfl (PureOp.pickT rfl rfl) ?_
  refine SL.pure rfl rfl rfl (PureOp.assign rfl) ?_
  refine SL.nil_then ?_
  refine WC.ret ?_
  refine QX.ret1 rfl rfl ?_
  intro w hw
  rfl

end Go.Proofs.Ythbgnjengkjigaa
