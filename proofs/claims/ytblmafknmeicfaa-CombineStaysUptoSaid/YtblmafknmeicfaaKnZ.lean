import Derived.Test.YtblmafknmeicfaaPrD
import Derived.Test.YtblmafknmeicfaaKnD
import Derived.Test.YtblmafknmeicfaaKnE
namespace Go.Proofs.Ytblmafknmeicfaa
open Go Go.RowKit Eng
set_option linter.unusedVariables false
set_option linter.unusedSimpArgs false

def kL1 : List Pt := [(0, 1, 0, 0), (1, 2, 1, 0)]
def kL2 : List Pt := [(0, 1, 0, 0), (1, 2, 2, 0)]
def kL3 : List Pt := [(0, 0, 3, 0), (0, 0, 3, 0)]
def kL4 : List Pt := [(0, 0, 3, 0)]
def kL0 : List Pt := [(0, 1, 0, 0)]
theorem kp1 : (resP (allK (prF 4 kL1) kL1.length) 19 23 2 (rdF exF kL1) (mtF exF kL1)) = (0, [(0, 1)]) := by kernel_rfl
theorem kp0 : (resP (allK (prF 4 kL0) kL0.length) 19 23 1 (rdF exF kL0) (mtF exF kL0)) = (23, []) := by kernel_rfl
theorem kc1 (b : Nat) : (chkE (covB ((2 : Nat) : Int) kL1) (resP (allK (prF 4 kL1) kL1.length) 19 23 2 (rdF exF kL1) (mtF exF kL1)).1 (mixedE (allK (prF 4 kL1) kL1.length) 2 (mixX exF (exR b) kL1)) (staysE 2 (resP (allK (prF 4 kL1) kL1.length) 19 23 2 (rdF exF kL1) (mtF exF kL1)) exF (exR b) exA exW kL1)) = 0 := by kernel_rfl
theorem kc2 (b : Nat) : (chkE (covB ((2 : Nat) : Int) kL2) (resP (allK (prF 4 kL2) kL2.length) 19 23 2 (rdF exF kL2) (mtF exF kL2)).1 (mixedE (allK (prF 4 kL2) kL2.length) 2 (mixX exF (exR b) kL2)) (staysE 2 (resP (allK (prF 4 kL2) kL2.length) 19 23 2 (rdF exF kL2) (mtF exF kL2)) exF (exR b) exA exW kL2)) = 24 := by kernel_rfl
theorem km3 (b : Nat) : (mixedE (allK (prF 4 kL3) kL3.length) 2 (mixX exF (exR b) kL3)) = 23 := by kernel_rfl
theorem km4 (b : Nat) : (mixedE (allK (prF 4 kL4) kL4.length) 1 (mixX exF (exR b) kL4)) = 0 := by kernel_rfl
theorem nil_in {w : World} {sz : Nat} {F : Nat → Nat → Value} : SliceIn w sz none 0 0 F := ⟨Nat.le_refl _, by simp [maxLen], .inl rfl, fun i hi => absurd hi (by omega)⟩
theorem ex_cm {w : World} {b : Nat} (h : SliceIn w 1 (some ⟨b, 0, none⟩) 1 1 (rowsF encI [8])) : ∀ r ∈ exR b, SliceIn w 1 r.2.2.1.ao r.2.2.1.l.length r.2.2.1.cap (rowsF encI r.2.2.1.l) := by
  intro r hr
  simp only [exR, List.mem_cons, List.not_mem_nil, or_false] at hr
  rcases hr with rfl | rfl | rfl
  · exact nil_in
  · exact nil_in
  · exact h
theorem ex_sh {w : World} : ∀ a ∈ exA, SliceIn w 2 a.2.2.2.2.ao a.2.2.2.2.l.length a.2.2.2.2.cap (rowsF enc133 a.2.2.2.2.l) := by
  intro a ha
  simp only [exA, List.mem_cons, List.not_mem_nil, or_false] at ha
  rcases ha with rfl | rfl
  · exact nil_in
  · exact nil_in
theorem ex_of : ∀ a ∈ exA, ∀ u, -1000000 ≤ offE u a.2.2.2.1 a.2.2.2.2.l ∧ offE u a.2.2.2.1 a.2.2.2.2.l ≤ 1000000 := by
  intro a ha u
  simp only [exA, List.mem_cons, List.not_mem_nil, or_false] at ha
  rcases ha with rfl | rfl
  · exact ⟨show (-1000000 : Int) ≤ 0 by decide, show (0 : Int) ≤ 1000000 by decide⟩
  · exact ⟨show (-1000000 : Int) ≤ -300 by decide, show (-300 : Int) ≤ 1000000 by decide⟩
theorem ex_dp : ∀ i, i < 2 → -1099511627776 ≤ (nth exW i).1.2.2.2.2.2.1 ∧ (nth exW i).1.2.2.2.2.2.1 ≤ 1099511627776 := by
  intro i hi
  match i, hi with
  | 0, _ => exact ⟨show (-1099511627776 : Int) ≤ 13676280 by decide, show (13676280 : Int) ≤ 1099511627776 by decide⟩
  | 1, _ => exact ⟨show (-1099511627776 : Int) ≤ 13679160 by decide, show (13679160 : Int) ≤ 1099511627776 by decide⟩
theorem l0_in {w : World} {b : Nat} (h : SliceIn w 4 (some ⟨b, 0, none⟩) 2 2 (rowsF enc42 kL1)) : SliceIn w 4 (subAo (some ⟨b, 0, none⟩) 2 0 4) (1 - 0) (2 - 0) (rowsF enc42 kL0) :=
  (SliceIn.sub0 (hi := 1) h (by decide)).congr fun i hi j hj => by
    obtain rfl : i = 0 := by omega
    rfl
set_option maxHeartbeats 4000000 in
set_option maxRecDepth 100000 in
theorem knows_ok (w0 : World) : FnC Try.prog 7 [] w0 fun v w' => v = .bool true := by
  refine fnc (N := 86) Try.func7 rfl rfl rfl ?_
  refine WC.seq ?_
  refine WC.region ?_
  refine SL.pure rfl rfl rfl (PureOp.assign rfl) ?_
  refine SL.nil_then ?_
  refine WC.seq ?_
  refine WC.region ?_
  refine SL.callM [] rfl rfl rfl rfl rfl rfl callable18 (by decide) (example_ok w0) rfl (fun _ _ => rfl) ?_
  rintro ⟨ea, ec, er, ef, ew⟩ _
  refine SL.norm [_, _, _, _, _] rfl ?_
  refine SL.pure rfl rfl rfl (PureOp.move rfl) ?_
  refine SL.pure rfl rfl rfl (PureOp.extract rfl rfl) ?_
  refine SL.pure rfl rfl rfl (PureOp.extract rfl rfl) ?_
  refine SL.pure rfl rfl rfl (PureOp.extract rfl rfl) ?_
  refine SL.alloc rfl rfl zero39 (fun b1 hb1 => ?_)
  refine SL.norm [_, _, _, _, _, _] rfl ?_
  refine SL.alloc rfl rfl zero27 (fun b2 hb2 => ?_)
  refine SL.norm [_, _, _, _, _, _, _] rfl ?_
  refine SL.store 5 rfl rfl rfl rfl sz39 rfl rfl ?_
  refine SL.norm [_, _, _, _, _, _, _] rfl ?_
  refine SL.store 6 rfl rfl rfl rfl sz27 rfl rfl ?_
  refine SL.norm [_, _, _, _, _, _, _] rfl ?_
  refine SL.pure rfl rfl rfl (PureOp.assign rfl) ?_
  refine SL.nil_then ?_
  refine WC.seq ?_
  refine WC.region ?_
  refine SL.pure rfl rfl rfl (PureOp.build bld42 rfl rfl) ?_
  refine SL.pure rfl rfl rfl (PureOp.build bld42 rfl rfl) ?_
  refine SL.buildSlice rfl rfl Try.underlying28 elem42 rfl rfl rfl rfl (fun b3 hb3 => ?_)
  refine SL.norm [_, _, _, _, _, _, _, _] rfl ?_
  refine SL.pure rfl rfl rfl (PureOp.assign rfl) ?_
  refine SL.nil_then ?_
  refine WC.seq ?_
  refine WC.region ?_
  refine SL.pure rfl rfl rfl (PureOp.loads (vs := [.slice (some ⟨ef, 0, none⟩) 4 4, .slice (some ⟨er, 0, none⟩) 3 3, .slice none 0 0, .slice none 0 0]) Try.underlying27 rfl rfl (fun _ => (RowIs.cells 6 0 4 rfl rfl)) sz27) ?_
  refine SL.pure rfl rfl rfl (PureOp.move rfl) ?_
  refine SL.callo (fun xa xc => .tuple #[.slice xa 1 xc, .int .i64 0]) rfl rfl rfl rfl rfl rfl callable8 (fun w hw => (by have h := pairs_ok ⟨none, 0, []⟩ ⟨none, 0, []⟩ exF (some ⟨er, 0, none⟩) 3 3 (some ⟨ef, 0, none⟩) 4 4 rfl w (SliceIn.rows (l := exF) (hw.mem (i := 3) rfl) enc52_len (by decide)) (by decide) kL1 (some ⟨b3, 0, none⟩) 2 2 rfl (SliceIn.rows (l := kL1) (hw.mem (i := 7) rfl) enc42_len (by decide)) (by decide); rw [kp1] at h; exact h)) (fun xa xc => ?_)
  refine SL.norm [_, _, _, _, _, _, _, _, _] rfl ?_
  refine SL.pure rfl rfl rfl (PureOp.move rfl) ?_
  refine SL.pure rfl rfl rfl (PureOp.extract rfl rfl) ?_
  refine SL.pure rfl rfl rfl (PureOp.extract rfl rfl) ?_
  refine SL.pure rfl rfl rfl (PureOp.assign rfl) ?_
  refine SL.pure rfl rfl rfl (PureOp.assign rfl) ?_
  refine SL.nil_then ?_
  refine WC.seq ?_
  refine WC.drawH 9 [false, false, false, false, false, false, false, false, false] rfl rfl rfl ?_
  refine SD.take 0 [true, false, false, false, false, false, false, false, false] rfl (by kernel_rfl) rfl (fun _ h => h) rfl rfl rfl (PureOp.loads (vs := [.slice (some ⟨ef, 0, none⟩) 4 4, .slice (some ⟨er, 0, none⟩) 3 3, .slice none 0 0, .slice none 0 0]) Try.underlying27 rfl rfl (fun _ => (RowIs.cells 6 0 4 rfl rfl)) sz27) ?_
  refine SD.take 1 [true, true, false, false, false, false, false, false, false] rfl (by kernel_rfl) rfl (fun _ h => h) rfl rfl rfl (PureOp.move rfl) ?_
  refine SD.take 2 [true, true, true, false, false, false, false, false, false] rfl (by kernel_rfl) rfl (fun _ h => h) rfl rfl rfl (PureOp.sliceho 7 Try.underlying28 sz42 rfl rfl rfl (fun _ => by first | omega | decide)) ?_
  refine SD.one 3 [true, true, true, true, false, false, false, false, false] (by kernel_rfl) rfl rfl ?_
  refine SL.callo (fun ya yc => .tuple #[.slice ya 0 yc, .int .i64 23]) rfl rfl rfl rfl rfl rfl callable8 (fun w hw => (by have h := pairs_ok ⟨none, 0, []⟩ ⟨none, 0, []⟩ exF (some ⟨er, 0, none⟩) 3 3 (some ⟨ef, 0, none⟩) 4 4 rfl w (SliceIn.rows (l := exF) (hw.mem (i := 3) rfl) enc52_len (by decide)) (by decide) kL0 (subAo (some ⟨b3, 0, none⟩) 2 0 4) (1 - 0) (2 - 0) rfl (l0_in (SliceIn.rows (l := kL1) (hw.mem (i := 7) rfl) enc42_len (by decide))) (by decide); rw [kp0] at h; exact h)) (fun ya yc => ?_)
  refine SL.norm [_, _, _, _, _, _, _, _, _, _] rfl ?_
  refine SD.back (fun _ h => HeapOk.take h 9) ?_
  refine SD.take 4 [true, true, true, true, true, false, false, false, false] rfl (by kernel_rfl) rfl (fun _ h => HeapOk.take h 9) rfl rfl rfl (PureOp.move rfl) ?_
  refine SD.take 5 [true, true, true, true, true, true, false, false, false] rfl (by kernel_rfl) rfl (fun _ h => HeapOk.take h 9) rfl rfl rfl (PureOp.extract rfl rfl) ?_
  refine SD.take 6 [true, true, true, true, true, true, true, false, false] rfl (by kernel_rfl) rfl (fun _ h => HeapOk.take h 9) rfl rfl rfl (PureOp.extract rfl rfl) ?_
  refine SD.take 7 [true, true, true, true, true, true, true, true, false] rfl (by kernel_rfl) rfl (fun _ h => HeapOk.take h 9) rfl rfl rfl (PureOp.assign rfl) ?_
  refine SD.take 8 [true, true, true, true, true, true, true, true, true] rfl (by kernel_rfl) rfl (fun _ h => HeapOk.take h 9) rfl rfl rfl (PureOp.assign rfl) ?_
  refine SD.done (by kernel_rfl) ?_
  refine QX.ofK ?_
  refine QX.then_ ?_
  refine WC.seq ?_
  refine WC.region ?_
  refine SL.pure rfl rfl rfl (PureOp.loads (vs := [.slice (some ⟨ea, 0, none⟩) 2 2, .slice none 0 0]) Try.underlying39 rfl rfl (fun _ => (RowIs.cells 5 0 2 rfl rfl)) sz39) ?_
  refine SL.pure rfl rfl rfl (PureOp.loads (vs := [.slice (some ⟨ef, 0, none⟩) 4 4, .slice (some ⟨er, 0, none⟩) 3 3, .slice none 0 0, .slice none 0 0]) Try.underlying27 rfl rfl (fun _ => (RowIs.cells 6 0 4 rfl rfl)) sz27) ?_
  refine SL.pure rfl rfl rfl (PureOp.move rfl) ?_
  refine SL.pure rfl rfl rfl (PureOp.move rfl) ?_
  refine SL.calle rfl rfl rfl rfl rfl rfl callable16 (fun w hw => (by have h := check_ok ⟨none, 0, []⟩ exA (some ⟨ea, 0, none⟩) 2 2 rfl ⟨none, 0, []⟩ ⟨none, 0, []⟩ exF (exR ec) (some ⟨er, 0, none⟩) 3 3 (some ⟨ef, 0, none⟩) 4 4 rfl rfl w (SliceIn.rows (l := exA) (hw.mem (i := 0) rfl) enc88_len (by decide)) (by decide) (SliceIn.rows (l := exF) (hw.mem (i := 3) rfl) enc52_len (by decide)) (SliceIn.rows (l := exR ec) (hw.mem (i := 2) rfl) enc76_len (Nat.le_refl 3)) (by decide) (by decide) (ex_cm (SliceIn.rows (l := [8]) (hw.mem (i := 1) rfl) encI_len (by decide))) exW (some ⟨ew, 0, none⟩) 2 2 rfl (SliceIn.rows (l := exW) (hw.mem (i := 4) rfl) enc62_len (by decide)) (by decide) ex_dp ex_sh ex_of kL1 (some ⟨b3, 0, none⟩) 2 2 rfl (SliceIn.rows (l := kL1) (hw.mem (i := 7) rfl) enc42_len (by decide)) (by decide); rw [kc1] at h; exact h)) ?_
  refine SL.norm [_, _, _, _, _, _, _, _, _, _] rfl ?_
  refine SL.pure rfl rfl rfl (PureOp.assign rfl) ?_
  refine SL.nil_then ?_
  refine WC.seq ?_
  refine WC.region ?_
  refine SL.pure rfl rfl rfl (PureOp.move rfl) ?_
  refine SL.pure rfl rfl rfl (PureOp.indexAddr Try.underlying28 sz42 rfl rfl AoOk.lit (fun _ => by first | omega | decide)) ?_
  refine SL.pure rfl rfl rfl (PureOp.fieldAddr 2 Try.underlying42 rfl rfl sz3 rfl) ?_
  refine SL.storeown (k := ((1 : Int).toNat)) (j := 2) 7 rfl rfl rfl rfl sz3 (by first | omega | decide) rfl ?_
  refine SL.itemxs 7 rfl (show _ = cellsOf enc42 kL2 from rfl) ?_
  refine SL.norm [_, _, _, _, _, _, _, _, _, _] rfl ?_
  refine SL.nil_then ?_
  refine WC.seq ?_
  refine WC.region ?_
  refine SL.pure rfl rfl rfl (PureOp.loads (vs := [.slice (some ⟨ea, 0, none⟩) 2 2, .slice none 0 0]) Try.underlying39 rfl rfl (fun _ => (RowIs.cells 5 0 2 rfl rfl)) sz39) ?_
  refine SL.pure rfl rfl rfl (PureOp.loads (vs := [.slice (some ⟨ef, 0, none⟩) 4 4, .slice (some ⟨er, 0, none⟩) 3 3, .slice none 0 0, .slice none 0 0]) Try.underlying27 rfl rfl (fun _ => (RowIs.cells 6 0 4 rfl rfl)) sz27) ?_
  refine SL.pure rfl rfl rfl (PureOp.move rfl) ?_
  refine SL.pure rfl rfl rfl (PureOp.move rfl) ?_
  refine SL.calle rfl rfl rfl rfl rfl rfl callable16 (fun w hw => (by have h := check_ok ⟨none, 0, []⟩ exA (some ⟨ea, 0, none⟩) 2 2 rfl ⟨none, 0, []⟩ ⟨none, 0, []⟩ exF (exR ec) (some ⟨er, 0, none⟩) 3 3 (some ⟨ef, 0, none⟩) 4 4 rfl rfl w (SliceIn.rows (l := exA) (hw.mem (i := 0) rfl) enc88_len (by decide)) (by decide) (SliceIn.rows (l := exF) (hw.mem (i := 3) rfl) enc52_len (by decide)) (SliceIn.rows (l := exR ec) (hw.mem (i := 2) rfl) enc76_len (Nat.le_refl 3)) (by decide) (by decide) (ex_cm (SliceIn.rows (l := [8]) (hw.mem (i := 1) rfl) encI_len (by decide))) exW (some ⟨ew, 0, none⟩) 2 2 rfl (SliceIn.rows (l := exW) (hw.mem (i := 4) rfl) enc62_len (by decide)) (by decide) ex_dp ex_sh ex_of kL2 (some ⟨b3, 0, none⟩) 2 2 rfl (SliceIn.rows (l := kL2) (hw.mem (i := 7) rfl) enc42_len (by decide)) (by decide); rw [kc2] at h; exact h)) ?_
  refine SL.norm [_, _, _, _, _, _, _, _, _, _] rfl ?_
  refine SL.pure rfl rfl rfl (PureOp.assign rfl) ?_
  refine SL.nil_then ?_
  refine WC.seq ?_
  refine WC.region ?_
  refine SL.pure rfl rfl rfl (PureOp.move rfl) ?_
  refine SL.pure rfl rfl rfl (PureOp.len rfl Try.underlying30) ?_
  refine SL.pure rfl rfl rfl (PureOp.eql rfl rfl) ?_
  refine SL.lit 47 true rfl (by decide) ?_
  refine SL.pure rfl rfl rfl (PureOp.move rfl) ?_
  refine SL.ung rfl rfl rfl rfl ?_
  refine SL.pure rfl rfl rfl (PureOp.move rfl) ?_
  refine SL.ung rfl rfl rfl rfl ?_
  refine SL.pure rfl rfl rfl (PureOp.indexAddr Try.underlying30 sz50 rfl rfl (AoOk.own 8 rfl) (fun _ => by first | omega | decide)) ?_
  refine SL.ung rfl rfl rfl rfl ?_
  refine SL.pure rfl rfl rfl (PureOp.loads (vs := [.int .i64 ((nth [((0 : Nat), (1 : Nat))] ((0 : Int).toNat)).1 : Int), .int .i64 ((nth [((0 : Nat), (1 : Nat))] ((0 : Int).toNat)).2 : Int)]) Try.underlying50 rfl rfl (fun _ => (RowIs.ownc (ao := xa) (n := 1) (cap := xc) (sz := 2) (xs := cellsOf encNN [(0, 1)]) 8 rfl 0 0 2 (rowsF encNN [((0 : Nat), (1 : Nat))] 0) (fun j hj => cellsOf_get encNN_len [((0 : Nat), (1 : Nat))] 0 (0 + j) (by decide) (by omega)))) sz50) ?_
  refine SL.ung rfl rfl rfl rfl ?_
  refine SL.pure rfl rfl rfl (PureOp.build bld50 rfl rfl) ?_
  refine SL.ung rfl rfl rfl rfl ?_
  refine SL.pure rfl rfl rfl (PureOp.eqla rfl rfl flat50 rfl) ?_
  refine SL.lit 53 true rfl (rfl) ?_
  refine SL.pure rfl rfl rfl (PureOp.pickT rfl rfl) ?_
  refine SL.pure rfl rfl rfl (PureOp.move rfl) ?_
  refine SL.ung rfl rfl rfl rfl ?_
  refine SL.pure rfl rfl rfl (PureOp.move rfl) ?_
  refine SL.ung rfl rfl rfl rfl ?_
  refine SL.pure rfl rfl rfl (PureOp.eql rfl rfl) ?_
  refine SL.lit 57 true rfl (by decide) ?_
  refine SL.pure rfl rfl rfl (PureOp.pickT rfl rfl) ?_
  refine SL.pure rfl rfl rfl (PureOp.move rfl) ?_
  refine SL.ung rfl rfl rfl rfl ?_
  refine SL.pure rfl rfl rfl (PureOp.move rfl) ?_
  refine SL.ung rfl rfl rfl rfl ?_
  refine SL.pure rfl rfl rfl (PureOp.eql rfl rfl) ?_
  refine SL.lit 61 true rfl (by decide) ?_
  refine SL.pure rfl rfl rfl (PureOp.pickT rfl rfl) ?_
  refine SL.pure rfl rfl rfl (PureOp.move rfl) ?_
  refine SL.ung rfl rfl rfl rfl ?_
  refine SL.pure rfl rfl rfl (PureOp.move rfl) ?_
  refine SL.ung rfl rfl rfl rfl ?_
  refine SL.pure rfl rfl rfl (PureOp.eql rfl rfl) ?_
  refine SL.lit 65 true rfl (by decide) ?_
  refine SL.pure rfl rfl rfl (PureOp.pickT rfl rfl) ?_
  refine SL.pure rfl rfl rfl (PureOp.move rfl) ?_
  refine SL.ung rfl rfl rfl rfl ?_
  refine SL.pure rfl rfl rfl (PureOp.move rfl) ?_
  refine SL.ung rfl rfl rfl rfl ?_
  refine SL.pure rfl rfl rfl (PureOp.eql rfl rfl) ?_
  refine SL.lit 69 true rfl (by decide) ?_
  refine SL.pure rfl rfl rfl (PureOp.pickT rfl rfl) ?_
  refine SL.pure rfl rfl rfl (PureOp.move rfl) ?_
  refine SL.ung rfl rfl rfl rfl ?_
  refine SL.pure rfl rfl rfl (PureOp.loads (vs := [.slice (some ⟨ef, 0, none⟩) 4 4, .slice (some ⟨er, 0, none⟩) 3 3, .slice none 0 0, .slice none 0 0]) Try.underlying27 rfl rfl (fun _ => (RowIs.cells 6 0 4 rfl rfl)) sz27) ?_
  refine SL.ung rfl rfl rfl rfl ?_
  refine SL.pure rfl rfl rfl (PureOp.build bld42 rfl rfl) ?_
  refine SL.ung rfl rfl rfl rfl ?_
  refine SL.pure rfl rfl rfl (PureOp.build bld42 rfl rfl) ?_
  refine SL.ung rfl rfl rfl rfl ?_
  refine SL.buildSlice rfl rfl Try.underlying28 elem42 rfl rfl rfl rfl (fun b4 hb4 => ?_)
  refine SL.norm [_, _, _, _, _, _, _, _, _, _, _] rfl ?_
  refine SL.ung rfl rfl rfl rfl ?_
  refine SL.calle rfl rfl rfl rfl rfl rfl callable12 (fun w hw => (by have h := mixedw_ok ⟨none, 0, []⟩ ⟨none, 0, []⟩ exF (exR ec) (some ⟨er, 0, none⟩) 3 3 (some ⟨ef, 0, none⟩) 4 4 rfl rfl w (SliceIn.rows (l := exF) (hw.mem (i := 3) rfl) enc52_len (by decide)) (SliceIn.rows (l := exR ec) (hw.mem (i := 2) rfl) enc76_len (Nat.le_refl 3)) (by decide) (by decide) (ex_cm (SliceIn.rows (l := [8]) (hw.mem (i := 1) rfl) encI_len (by decide))) kL3 (some ⟨b4, 0, none⟩) 2 2 rfl (SliceIn.rows (l := kL3) (hw.mem (i := 10) rfl) enc42_len (by decide)) (by decide); rw [km3] at h; exact h)) ?_
  refine SL.norm [_, _, _, _, _, _, _, _, _, _, _] rfl ?_
  refine SL.ung rfl rfl rfl rfl ?_
  refine SL.pure rfl rfl rfl (PureOp.eql rfl rfl) ?_
  refine SL.lit 77 true rfl (by decide) ?_
  refine SL.pure rfl rfl rfl (PureOp.pickT rfl rfl) ?_
  refine SL.pure rfl rfl rfl (PureOp.move rfl) ?_
  refine SL.ung rfl rfl rfl rfl ?_
  refine SL.pure rfl rfl rfl (PureOp.loads (vs := [.slice (some ⟨ef, 0, none⟩) 4 4, .slice (some ⟨er, 0, none⟩) 3 3, .slice none 0 0, .slice none 0 0]) Try.underlying27 rfl rfl (fun _ => (RowIs.cells 6 0 4 rfl rfl)) sz27) ?_
  refine SL.ung rfl rfl rfl rfl ?_
  refine SL.pure rfl rfl rfl (PureOp.build bld42 rfl rfl) ?_
  refine SL.ung rfl rfl rfl rfl ?_
  refine SL.buildSlice rfl rfl Try.underlying28 elem42 rfl rfl rfl rfl (fun b5 hb5 => ?_)
  refine SL.norm [_, _, _, _, _, _, _, _, _, _, _, _] rfl ?_
  refine SL.ung rfl rfl rfl rfl ?_
  refine SL.calle rfl rfl rfl rfl rfl rfl callable12 (fun w hw => (by have h := mixedw_ok ⟨none, 0, []⟩ ⟨none, 0, []⟩ exF (exR ec) (some ⟨er, 0, none⟩) 3 3 (some ⟨ef, 0, none⟩) 4 4 rfl rfl w (SliceIn.rows (l := exF) (hw.mem (i := 3) rfl) enc52_len (by decide)) (SliceIn.rows (l := exR ec) (hw.mem (i := 2) rfl) enc76_len (Nat.le_refl 3)) (by decide) (by decide) (ex_cm (SliceIn.rows (l := [8]) (hw.mem (i := 1) rfl) encI_len (by decide))) kL4 (some ⟨b5, 0, none⟩) 1 1 rfl (SliceIn.rows (l := kL4) (hw.mem (i := 11) rfl) enc42_len (by decide)) (by decide); rw [km4] at h; exact h)) ?_
  refine SL.norm [_, _, _, _, _, _, _, _, _, _, _, _] rfl ?_
  refine SL.ung rfl rfl rfl rfl ?_
  refine SL.pure rfl rfl rfl (PureOp.eql rfl rfl) ?_
  refine SL.lit 84 true rfl (by decide) ?_
  refine SL.pure rfl rfl rfl (PureOp.pickT rfl rfl) ?_
  refine SL.pure rfl rfl rfl (PureOp.assign rfl) ?_
  refine SL.nil_then ?_
  refine WC.ret ?_
  refine QX.ret1 rfl rfl ?_
  intro w hw
  rfl

end Go.Proofs.Ytblmafknmeicfaa
