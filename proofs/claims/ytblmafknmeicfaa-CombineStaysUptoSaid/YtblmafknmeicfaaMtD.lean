import Derived.Test.YtblmafknmeicfaaMtC
namespace Go.Proofs.Ytblmafknmeicfaa
open Go Go.RowKit Eng
set_option linter.unusedVariables false
set_option linter.unusedSimpArgs false

set_option maxHeartbeats 4000000 in
set_option maxRecDepth 100000 in
theorem link_ok (l : List Lk) (ao : Option Addr) (n cap : Nat) (hn : n ≤ l.length) (f t : ByteArray) (w0 : World) (sK : SliceIn w0 2 ao n cap (rowsF enc127 l)) : FnC Try.prog 67 [.slice ao n cap, .string f, .string t] w0 fun v w' => v = .int .i64 (lnkF l f t n 0) := by
  have hnm : (n : Int) ≤ 9223372036854775807 := by
    have q1 := sK.le; have q2 := sK.max; simp only [maxLen] at q2; omega
  refine fnc (N := 31) Try.func67 rfl rfl rfl ?_
  refine WC.seq ?_
  refine WC.region ?_
  refine SL.pure rfl rfl rfl (PureOp.assign rfl) ?_
  refine SL.nil_then ?_
  refine WC.seq ?_
  refine WC.seq ?_
  refine WC.region ?_
  refine SL.pure rfl rfl rfl (PureOp.assign rfl) ?_
  refine SL.nil_then ?_
  refine WC.block ?_
  refine WC.loop (σ := Nat) (fun q_ => [(0, 0, .slice ao n cap), (1, 0, .string f), (2, 0, .string t), (7, 0, .int .i64 ((q_ : Nat) : Int))]) (fun q_ => []) (fun q_ => q_ ≤ n ∧ lnkF l f t (n - q_) q_ = lnkF l f t n 0) (fun q_ => n - q_) 0 (0) (⟨Nat.zero_le _, rfl⟩) ⟨rfl, rfl, rfl, rfl, rfl, rfl, rfl, rfl, trivial⟩ rfl ?_
  rintro k ⟨hk, hz⟩
  refine WC.seq ?_
  refine WC.seq ?_
  refine WC.region ?_
  refine SL.pure rfl rfl rfl (PureOp.move rfl) ?_
  refine SL.pure rfl rfl rfl (PureOp.move rfl) ?_
  refine SL.pure rfl rfl rfl (PureOp.len rfl Try.underlying97) ?_
  refine SL.pure rfl rfl rfl (PureOp.lss rfl rfl) ?_
  refine SL.nil_then ?_
  refine WC.cond rfl (fun h1 => ?_) (fun h1 => ?_)
  · try simp only [Bool.and_eq_true, Bool.or_eq_true, Bool.not_eq_true', Bool.not_eq_false', Bool.and_eq_false_iff, Bool.or_eq_false_iff, decide_eq_true_eq, decide_eq_false_iff_not, Int.not_lt, Int.not_le, ne_eq, Decidable.not_not] at h1
    refine WC.skip ?_
    refine QX.then_ ?_
    refine WC.seq ?_
    refine WC.block ?_
    refine WC.seq ?_
    refine WC.region ?_
    refine SL.pure rfl rfl rfl (PureOp.move rfl) ?_
    refine SL.pure rfl rfl rfl (PureOp.move rfl) ?_
    refine SL.pure rfl rfl rfl (PureOp.indexAddrN Try.underlying97 sz127 rfl rfl (AoOk.in_ sK) (fun _ => by omega)) ?_
    refine SL.pure rfl rfl rfl (PureOp.fieldAddr 0 Try.underlying127 rfl rfl sz9 rfl) ?_
    refine SL.pure rfl rfl rfl (PureOp.load (v := .string ((nth l k).1)) Try.underlying9 rfl rfl (fun _ => (CellIs.in_ sK k 0 (by omega) (by omega)))) ?_
    refine SL.pure rfl rfl rfl (PureOp.move rfl) ?_
    refine SL.pure rfl rfl rfl (PureOp.eqls rfl rfl) ?_
    refine SL.pure rfl rfl rfl (PureOp.move rfl) ?_
    refine SL.newg 21 true rfl ?_
    refine SL.gpure (c := 1) rfl rfl rfl rfl rfl rfl rfl (PureOp.move rfl) ?_
    refine SL.gpure (c := 1) rfl rfl rfl rfl rfl rfl rfl (PureOp.move rfl) ?_
    refine SL.gpure (c := 1) rfl rfl rfl rfl rfl rfl rfl (PureOp.indexAddrN Try.underlying97 sz127 rfl rfl (AoOk.in_ sK) (by intro hg; simp [gval] at hg; omega)) ?_
    refine SL.gpure (c := 1) rfl rfl rfl rfl rfl rfl rfl (PureOp.fieldAddr 1 Try.underlying127 rfl rfl sz9 rfl) ?_
    refine SL.gpure (c := 1) rfl rfl rfl rfl rfl rfl rfl (PureOp.load (v := .string ((nth l k).2)) Try.underlying9 rfl rfl (by intro hg; simp [gval] at hg; exact (CellIs.in_ sK k 1 (by omega) (by omega)))) ?_
    refine SL.gpure (c := 1) rfl rfl rfl rfl rfl rfl rfl (PureOp.move rfl) ?_
    refine SL.gpure (c := 1) rfl rfl rfl rfl rfl rfl rfl (PureOp.eqls rfl rfl) ?_
    refine SL.pure rfl rfl rfl (PureOp.and_ rfl rfl rfl rfl) ?_
    refine SL.nil_then ?_
    refine WC.cond rfl (fun h2 => ?_) (fun h2 => ?_)
    · try simp only [Bool.and_eq_true, Bool.or_eq_true, Bool.not_eq_true', Bool.not_eq_false', Bool.and_eq_false_iff, Bool.or_eq_false_iff, decide_eq_true_eq, decide_eq_false_iff_not, Int.not_lt, Int.not_le, ne_eq, Decidable.not_not] at h2
      refine WC.seq ?_
      refine WC.region ?_
      refine SL.pure rfl rfl rfl (PureOp.move rfl) ?_
      refine SL.pure rfl rfl rfl (PureOp.assign rfl) ?_
      refine SL.nil_then ?_
      refine WC.ret ?_
      refine QX.ret_in ?_
      refine QX.ret_then ?_
      refine QX.ret_then ?_
      refine QX.ret_in ?_
      refine QX.ret_then ?_
      refine QX.ret1 rfl rfl ?_
      intro w hw
      rw [show n - k = (n - (k + 1)) + 1 from by omega, lnkF, if_pos (by simpa using h2)] at hz
      rw [← hz]
    · try simp only [Bool.and_eq_true, Bool.or_eq_true, Bool.not_eq_true', Bool.not_eq_false', Bool.and_eq_false_iff, Bool.or_eq_false_iff, decide_eq_true_eq, decide_eq_false_iff_not, Int.not_lt, Int.not_le, ne_eq, Decidable.not_not] at h2
      refine WC.skip ?_
      refine QX.normal_in ?_
      refine QX.then_ ?_
      refine WC.region ?_
      refine SL.pure rfl rfl rfl (PureOp.move rfl) ?_
      refine SL.pure rfl rfl rfl (PureOp.addN (k := 1) rfl rfl (fun _ => by omega)) ?_
      refine SL.pure rfl rfl rfl (PureOp.assign rfl) ?_
      refine SL.nil ?_
      refine QX.round 0 (k + 1) ⟨⟨(by first | omega | (dsimp only; omega)), by rw [show n - k = (n - (k + 1)) + 1 from by omega, lnkF, if_neg (by intro q; simp at h2; exact h2.elim (fun h => h q.1) (fun h => h q.2))] at hz; exact hz⟩, by first | omega | (dsimp only; omega)⟩ ⟨rfl, rfl, rfl, rfl, rfl, rfl, rfl, rfl, trivial⟩ rfl
  · try simp only [Bool.and_eq_true, Bool.or_eq_true, Bool.not_eq_true', Bool.not_eq_false', Bool.and_eq_false_iff, Bool.or_eq_false_iff, decide_eq_true_eq, decide_eq_false_iff_not, Int.not_lt, Int.not_le, ne_eq, Decidable.not_not] at h1
    refine WC.exit ?_
    refine QX.exit_then ?_
    refine QX.exit_then ?_
    refine QX.exit_hit ?_
    refine QX.then_ ?_
    refine WC.seq ?_
    refine WC.region ?_
    refine SL.pure rfl rfl rfl (PureOp.assign rfl) ?_
    refine SL.nil_then ?_
    refine WC.ret ?_
    refine QX.ret1 rfl rfl ?_
    intro w hw
    rw [show n - k = 0 from by omega] at hz
    rw [← hz]; rfl

set_option maxHeartbeats 4000000 in
set_option maxRecDepth 100000 in
theorem routef_any (w0 : World) (x : Int × SliceV Lk × Int) (sK : SliceIn w0 2 x.2.1.ao x.2.1.l.length x.2.1.cap (rowsF enc127 x.2.1.l)) (hks : ∀ y ∈ x.2.1.l, y.1.size ≤ maxLen ∧ y.2.size ≤ maxLen) : FnC Try.prog 42 [.agg #[.int .i64 x.1, .slice x.2.1.ao x.2.1.l.length x.2.1.cap, .int .i64 x.2.2]] w0 fun v w' => ∃ a cp n L, v = .slice a n cp ∧ FLs L n 400 ∧ w'.ownsRow w0.heap.size 93 2 (.slice a n cp) n (cellsOf encNF L) := by
  have hnm : (x.2.1.l.length : Int) ≤ 9223372036854775807 := by
    have q1 := sK.le; have q2 := sK.max; simp only [maxLen] at q2; omega
  have hkc := sK.le
  refine fnc (N := 101) Try.func42 rfl rfl rfl ?_
  refine WC.seq ?_
  refine WC.region ?_
  refine SL.box rfl rfl rfl (fun b1 hb1 => ?_)
  refine SL.norm [_] rfl ?_
  refine SL.pure rfl rfl rfl (PureOp.assign rfl) ?_
  refine SL.nil_then ?_
  refine WC.seq ?_
  refine WC.region ?_
  refine SL.addnil 93 2 ?_
  refine SL.pure rfl rfl rfl (PureOp.assign rfl) ?_
  refine SL.nil_then ?_
  refine WC.cutx (σ := Option Addr × Nat × Nat × List NF) (fun q_ => [(0, 0, .agg #[.int .i64 x.1, .slice x.2.1.ao x.2.1.l.length x.2.1.cap, .int .i64 x.2.2]), (1, 0, .pointer (some ⟨b1, 0, none⟩)), (2, 0, .slice none 0 0), (3, 0, .slice q_.1 q_.2.2.1 q_.2.1)]) (fun q_ => [Item.cells b1 [.int .i64 x.1, .slice x.2.1.ao x.2.1.l.length x.2.1.cap, .int .i64 x.2.2] 99, Item.own w0.heap.size q_.1 q_.2.2.1 q_.2.1 93 2 (cellsOf encNF (q_.2.2.2))]) (fun q_ => FLs q_.2.2.2 q_.2.2.1 1) ?_ ?_
  · skip
    refine WC.seq ?_
    refine WC.region ?_
    refine SL.pure rfl rfl rfl (PureOp.fieldAddrT 0 Try.underlying99 rfl sz3 rfl rfl) ?_
    refine SL.pure rfl rfl rfl (PureOp.load (v := .int .i64 x.1) Try.underlying3 rfl rfl (fun _ => (CellIs.cells 0 rfl rfl))) ?_
    refine SL.pure rfl rfl rfl (PureOp.lss rfl rfl) ?_
    refine SL.pure rfl rfl rfl (PureOp.move rfl) ?_
    refine SL.newg 10 false rfl ?_
    refine SL.gpure (c := 1) rfl rfl rfl rfl rfl rfl rfl (PureOp.fieldAddrT 0 Try.underlying99 rfl sz3 rfl rfl) ?_
    refine SL.gpure (c := 1) rfl rfl rfl rfl rfl rfl rfl (PureOp.load (v := .int .i64 x.1) Try.underlying3 rfl rfl (fun _ => (CellIs.cells 0 rfl rfl))) ?_
    refine SL.gpure (c := 1) rfl rfl rfl rfl rfl rfl rfl (PureOp.gtr rfl rfl) ?_
    refine SL.pure rfl rfl rfl (PureOp.or_ rfl rfl rfl rfl) ?_
    refine SL.nil_then ?_
    refine WC.cond rfl (fun h1 => ?_) (fun h1 => ?_)
    · try simp only [Bool.and_eq_true, Bool.or_eq_true, Bool.not_eq_true', Bool.not_eq_false', Bool.and_eq_false_iff, Bool.or_eq_false_iff, decide_eq_true_eq, decide_eq_false_iff_not, Int.not_lt, Int.not_le, ne_eq, Decidable.not_not] at h1
      refine WC.region ?_
      refine SL.pure rfl rfl rfl (PureOp.move rfl) ?_
      refine SL.pure rfl rfl rfl (PureOp.build bld93 rfl rfl) ?_
      refine SL.buildSlice rfl rfl Try.underlying63 elem93 rfl rfl rfl rfl (fun b2 hb2 => ?_)
      refine SL.norm [_, _, _] rfl ?_
      refine SL.append 1 rfl rfl Try.underlying63 elem93 rfl rfl rfl rfl (SrcIs.own 2 rfl) (by rfl) (by first | omega | exact at_max (by decide)) (by first | omega | exact at_max (by decide)) (fun ao1_ cap1_ => ?_)
      refine SL.itemxs 1 rfl (show _ = cellsOf encNF ([] ++ [((2 : Int), ((⟨#[110, 117, 109, 98, 101, 114]⟩) : ByteArray))]) from by rw [cellsOf_append (l := ([])), cellsOf_one]; rfl) ?_
      refine SL.norm [_, _, _] rfl ?_
      refine SL.pure rfl rfl rfl (PureOp.assign rfl) ?_
      refine SL.nil ?_
      refine QX.cutx (σ := Option Addr × Nat × Nat × List NF) (E' := fun q_ => [(0, 0, .agg #[.int .i64 x.1, .slice x.2.1.ao x.2.1.l.length x.2.1.cap, .int .i64 x.2.2]), (1, 0, .pointer (some ⟨b1, 0, none⟩)), (2, 0, .slice none 0 0), (3, 0, .slice q_.1 q_.2.2.1 q_.2.1)]) (H' := fun q_ => [Item.cells b1 [.int .i64 x.1, .slice x.2.1.ao x.2.1.l.length x.2.1.cap, .int .i64 x.2.2] 99, Item.own w0.heap.size q_.1 q_.2.2.1 q_.2.1 93 2 (cellsOf encNF (q_.2.2.2))]) (I := fun q_ => FLs q_.2.2.2 q_.2.2.1 1) 2 ((ao1_, cap1_, 0 + 1, [] ++ [((2 : Int), ((⟨#[110, 117, 109, 98, 101, 114]⟩) : ByteArray))])) ((by first | exact (FLs.nil).mono (by omega) | exact ((FLs.nil).snoc (by first | exact at_sz (by decide) | decide)).mono (by omega) | exact (((FLs.nil).snoc (by first | exact at_sz (by decide) | decide)).snoc (by first | exact at_sz (by decide) | decide)).mono (by omega) | exact ((((FLs.nil).snoc (by first | exact at_sz (by decide) | decide)).snoc (by first | exact at_sz (by decide) | decide)).snoc (by first | exact at_sz (by decide) | decide)).mono (by omega))) ⟨rfl, rfl, rfl, rfl, rfl, rfl, rfl, rfl, trivial⟩ rfl
    · try simp only [Bool.and_eq_true, Bool.or_eq_true, Bool.not_eq_true', Bool.not_eq_false', Bool.and_eq_false_iff, Bool.or_eq_false_iff, decide_eq_true_eq, decide_eq_false_iff_not, Int.not_lt, Int.not_le, ne_eq, Decidable.not_not] at h1
      refine WC.skip ?_
      refine QX.cutx (σ := Option Addr × Nat × Nat × List NF) (E' := fun q_ => [(0, 0, .agg #[.int .i64 x.1, .slice x.2.1.ao x.2.1.l.length x.2.1.cap, .int .i64 x.2.2]), (1, 0, .pointer (some ⟨b1, 0, none⟩)), (2, 0, .slice none 0 0), (3, 0, .slice q_.1 q_.2.2.1 q_.2.1)]) (H' := fun q_ => [Item.cells b1 [.int .i64 x.1, .slice x.2.1.ao x.2.1.l.length x.2.1.cap, .int .i64 x.2.2] 99, Item.own w0.heap.size q_.1 q_.2.2.1 q_.2.1 93 2 (cellsOf encNF (q_.2.2.2))]) (I := fun q_ => FLs q_.2.2.2 q_.2.2.1 1) 2 ((none, 0, 0, [])) ((by first | exact (FLs.nil).mono (by omega) | exact ((FLs.nil).snoc (by first | exact at_sz (by decide) | decide)).mono (by omega) | exact (((FLs.nil).snoc (by first | exact at_sz (by decide) | decide)).snoc (by first | exact at_sz (by decide) | decide)).mono (by omega) | exact ((((FLs.nil).snoc (by first | exact at_sz (by decide) | decide)).snoc (by first | exact at_sz (by decide) | decide)).snoc (by first | exact at_sz (by decide) | decide)).mono (by omega))) ⟨rfl, rfl, rfl, rfl, rfl, rfl, rfl, rfl, trivial⟩ rfl
  rintro ⟨a1_, c1_, n1_, L1_⟩ hF1
  try dsimp only at *
  have hFl1 := hF1.ln.le
  refine WC.cutx (σ := Option Addr × Nat × Nat × List NF) (fun q_ => [(0, 0, .agg #[.int .i64 x.1, .slice x.2.1.ao x.2.1.l.length x.2.1.cap, .int .i64 x.2.2]), (1, 0, .pointer (some ⟨b1, 0, none⟩)), (2, 0, .slice none 0 0), (3, 0, .slice q_.1 q_.2.2.1 q_.2.1)]) (fun q_ => [Item.cells b1 [.int .i64 x.1, .slice x.2.1.ao x.2.1.l.length x.2.1.cap, .int .i64 x.2.2] 99, Item.own w0.heap.size q_.1 q_.2.2.1 q_.2.1 93 2 (cellsOf encNF (q_.2.2.2))]) (fun q_ => FLs q_.2.2.2 q_.2.2.1 2) ?_ ?_
  · skip
    refine WC.seq ?_
    refine WC.region ?_
    refine SL.pure rfl rfl rfl (PureOp.fieldAddrT 1 Try.underlying99 rfl sz97 rfl rfl) ?_
    refine SL.pure rfl rfl rfl (PureOp.load (v := .slice x.2.1.ao x.2.1.l.length x.2.1.cap) Try.underlying97 rfl rfl (fun _ => (CellIs.cells 0 rfl rfl))) ?_
    refine SL.pure rfl rfl rfl (PureOp.len rfl Try.underlying97) ?_
    refine SL.pure rfl rfl rfl (PureOp.gtr rfl rfl) ?_
    refine SL.nil_then ?_
    refine WC.cond rfl (fun h2 => ?_) (fun h2 => ?_)
    · try simp only [Bool.and_eq_true, Bool.or_eq_true, Bool.not_eq_true', Bool.not_eq_false', Bool.and_eq_false_iff, Bool.or_eq_false_iff, decide_eq_true_eq, decide_eq_false_iff_not, Int.not_lt, Int.not_le, ne_eq, Decidable.not_not] at h2
      refine WC.region ?_
      refine SL.pure rfl rfl rfl (PureOp.move rfl) ?_
      refine SL.pure rfl rfl rfl (PureOp.build bld93 rfl rfl) ?_
      refine SL.buildSlice rfl rfl Try.underlying63 elem93 rfl rfl rfl rfl (fun b3 hb3 => ?_)
      refine SL.norm [_, _, _] rfl ?_
      refine SL.append 1 rfl rfl Try.underlying63 elem93 rfl rfl rfl rfl (SrcIs.own 2 rfl) (by rfl) (by first | omega | exact at_max (by decide)) (by first | omega | exact at_max (by decide)) (fun ao2_ cap2_ => ?_)
      refine SL.itemxs 1 rfl (show _ = cellsOf encNF (L1_ ++ [((4 : Int), ((⟨#[108, 105, 110, 107, 115]⟩) : ByteArray))]) from by rw [cellsOf_append (l := L1_), cellsOf_one]; rfl) ?_
      refine SL.norm [_, _, _] rfl ?_
      refine SL.pure rfl rfl rfl (PureOp.assign rfl) ?_
      refine SL.nil ?_
      refine QX.cutx (σ := Option Addr × Nat × Nat × List NF) (E' := fun q_ => [(0, 0, .agg #[.int .i64 x.1, .slice x.2.1.ao x.2.1.l.length x.2.1.cap, .int .i64 x.2.2]), (1, 0, .pointer (some ⟨b1, 0, none⟩)), (2, 0, .slice none 0 0), (3, 0, .slice q_.1 q_.2.2.1 q_.2.1)]) (H' := fun q_ => [Item.cells b1 [.int .i64 x.1, .slice x.2.1.ao x.2.1.l.length x.2.1.cap, .int .i64 x.2.2] 99, Item.own w0.heap.size q_.1 q_.2.2.1 q_.2.1 93 2 (cellsOf encNF (q_.2.2.2))]) (I := fun q_ => FLs q_.2.2.2 q_.2.2.1 2) 2 ((ao2_, cap2_, n1_ + 1, L1_ ++ [((4 : Int), ((⟨#[108, 105, 110, 107, 115]⟩) : ByteArray))])) ((by first | exact hF1.mono (by omega) | exact (hF1.snoc (by first | exact at_sz (by decide) | decide)).mono (by omega) | exact ((hF1.snoc (by first | exact at_sz (by decide) | decide)).snoc (by first | exact at_sz (by decide) | decide)).mono (by omega) | exact (((hF1.snoc (by first | exact at_sz (by decide) | decide)).snoc (by first | exact at_sz (by decide) | decide)).snoc (by first | exact at_sz (by decide) | decide)).mono (by omega))) ⟨rfl, rfl, rfl, rfl, rfl, rfl, rfl, rfl, trivial⟩ rfl
    · try simp only [Bool.and_eq_true, Bool.or_eq_true, Bool.not_eq_true', Bool.not_eq_false', Bool.and_eq_false_iff, Bool.or_eq_false_iff, decide_eq_true_eq, decide_eq_false_iff_not, Int.not_lt, Int.not_le, ne_eq, Decidable.not_not] at h2
      refine WC.skip ?_
      refine QX.cutx (σ := Option Addr × Nat × Nat × List NF) (E' := fun q_ => [(0, 0, .agg #[.int .i64 x.1, .slice x.2.1.ao x.2.1.l.length x.2.1.cap, .int .i64 x.2.2]), (1, 0, .pointer (some ⟨b1, 0, none⟩)), (2, 0, .slice none 0 0), (3, 0, .slice q_.1 q_.2.2.1 q_.2.1)]) (H' := fun q_ => [Item.cells b1 [.int .i64 x.1, .slice x.2.1.ao x.2.1.l.length x.2.1.cap, .int .i64 x.2.2] 99, Item.own w0.heap.size q_.1 q_.2.2.1 q_.2.1 93 2 (cellsOf encNF (q_.2.2.2))]) (I := fun q_ => FLs q_.2.2.2 q_.2.2.1 2) 2 ((a1_, c1_, n1_, L1_)) ((by first | exact hF1.mono (by omega) | exact (hF1.snoc (by first | exact at_sz (by decide) | decide)).mono (by omega) | exact ((hF1.snoc (by first | exact at_sz (by decide) | decide)).snoc (by first | exact at_sz (by decide) | decide)).mono (by omega) | exact (((hF1.snoc (by first | exact at_sz (by decide) | decide)).snoc (by first | exact at_sz (by decide) | decide)).snoc (by first | exact at_sz (by decide) | decide)).mono (by omega))) ⟨rfl, rfl, rfl, rfl, rfl, rfl, rfl, rfl, trivial⟩ rfl
  rintro ⟨a2_, c2_, n2_, L2_⟩ hF2
  try dsimp only at *
  have hFl2 := hF2.ln.le
  refine WC.seq ?_
  refine WC.seq ?_
  refine WC.region ?_
  refine SL.pure rfl rfl rfl (PureOp.assign rfl) ?_
  refine SL.nil_then ?_
  refine WC.block ?_
  refine WC.loop (σ := Nat × Option Addr × Nat × Nat × List NF) (fun q_ => [(0, 0, .agg #[.int .i64 x.1, .slice x.2.1.ao x.2.1.l.length x.2.1.cap, .int .i64 x.2.2]), (1, 0, .pointer (some ⟨b1, 0, none⟩)), (2, 0, .slice none 0 0), (4, 0, .int .i64 ((q_.1 : Nat) : Int)), (3, 0, .slice q_.2.1 q_.2.2.2.1 q_.2.2.1)]) (fun q_ => [Item.cells b1 [.int .i64 x.1, .slice x.2.1.ao x.2.1.l.length x.2.1.cap, .int .i64 x.2.2] 99, Item.own w0.heap.size q_.2.1 q_.2.2.2.1 q_.2.2.1 93 2 (cellsOf encNF (q_.2.2.2.2))]) (fun q_ => q_.1 ≤ x.2.1.l.length ∧ q_.1 ≤ 128 ∧ FLs q_.2.2.2.2 q_.2.2.2.1 (2 + 3 * q_.1)) (fun q_ => x.2.1.l.length - q_.1) 2 ((0, a2_, c2_, n2_, L2_)) (⟨Nat.zero_le _, Nat.zero_le _, hF2⟩) ⟨rfl, rfl, rfl, rfl, rfl, rfl, rfl, rfl, rfl, rfl, trivial⟩ rfl ?_
  rintro ⟨i, a, c, n_, L⟩ ⟨hi, hi8, hF⟩
  try dsimp only at *
  have hFl := hF.ln.le
  refine WC.seq ?_
  refine WC.seq ?_
  refine WC.region ?_
  refine SL.pure rfl rfl rfl (PureOp.move rfl) ?_
  refine SL.pure rfl rfl rfl (PureOp.fieldAddrT 1 Try.underlying99 rfl sz97 rfl rfl) ?_
  refine SL.pure rfl rfl rfl (PureOp.load (v := .slice x.2.1.ao x.2.1.l.length x.2.1.cap) Try.underlying97 rfl rfl (fun _ => (CellIs.cells 0 rfl rfl))) ?_
  refine SL.pure rfl rfl rfl (PureOp.len rfl Try.underlying97) ?_
  refine SL.pure rfl rfl rfl (PureOp.lss rfl rfl) ?_
  refine SL.pure rfl rfl rfl (PureOp.move rfl) ?_
  refine SL.newg 32 true rfl ?_
  refine SL.gpure (c := 1) rfl rfl rfl rfl rfl rfl rfl (PureOp.fieldAddrT 1 Try.underlying99 rfl sz97 rfl rfl) ?_
  refine SL.gpure (c := 1) rfl rfl rfl rfl rfl rfl rfl (PureOp.load (v := .slice x.2.1.ao x.2.1.l.length x.2.1.cap) Try.underlying97 rfl rfl (fun _ => (CellIs.cells 0 rfl rfl))) ?_
  refine SL.gpure (c := 1) rfl rfl rfl rfl rfl rfl rfl (PureOp.len rfl Try.underlying97) ?_
  refine SL.gpure (c := 1) rfl rfl rfl rfl rfl rfl rfl (PureOp.leq rfl rfl) ?_
  refine SL.pure rfl rfl rfl (PureOp.and_ rfl rfl rfl rfl) ?_
  refine SL.nil_then ?_
  refine WC.cond rfl (fun h3 => ?_) (fun h3 => ?_)
  · try simp only [Bool.and_eq_true, Bool.or_eq_true, Bool.not_eq_true', Bool.not_eq_false', Bool.and_eq_false_iff, Bool.or_eq_false_iff, decide_eq_true_eq, decide_eq_false_iff_not, Int.not_lt, Int.not_le, ne_eq, Decidable.not_not] at h3
    refine WC.skip ?_
    refine QX.then_ ?_
    refine WC.seq ?_
    refine WC.block ?_
    refine WC.seq ?_
    refine WC.region ?_
    refine SL.pure rfl rfl rfl (PureOp.fieldAddrT 1 Try.underlying99 rfl sz97 rfl rfl) ?_
    refine SL.pure rfl rfl rfl (PureOp.load (v := .slice x.2.1.ao x.2.1.l.length x.2.1.cap) Try.underlying97 rfl rfl (fun _ => (CellIs.cells 0 rfl rfl))) ?_
    refine SL.pure rfl rfl rfl (PureOp.move rfl) ?_
    refine SL.pure rfl rfl rfl (PureOp.indexAddrN Try.underlying97 sz127 rfl rfl (AoOk.in_ sK) (fun _ => by first | omega | exact at_max (by decide))) ?_
    refine SL.pure rfl rfl rfl (PureOp.loads (vs := [.string ((nth x.2.1.l i).1), .string ((nth x.2.1.l i).2)]) Try.underlying127 rfl rfl (fun _ => (RowIs.in_ sK i 0 2 (by first | omega | exact at_max (by decide)) (by omega))) sz127) ?_
    refine SL.alloc rfl rfl zero127 (fun b4 hb4 => ?_)
    refine SL.norm [_, _, _] rfl ?_
    refine SL.store 2 rfl rfl rfl rfl sz127 rfl rfl ?_
    refine SL.norm [_, _, _] rfl ?_
    refine SL.nil_then ?_
    refine WC.seq ?_
    refine WC.region ?_
    refine SL.pure rfl rfl rfl (PureOp.move rfl) ?_
    refine SL.calle rfl rfl rfl rfl rfl rfl callable37 (fun w hw => decimal_ok ((i : Nat) : Int) (by omega) w) ?_
    refine SL.norm [_, _, _] rfl ?_
    refine SL.pure rfl rfl rfl (PureOp.adds rfl rfl (fun _ => by first | omega | exact at_max (by decide))) ?_
    refine SL.pure rfl rfl rfl (PureOp.assign rfl) ?_
    refine SL.nil_then ?_
    refine WC.seq ?_
    refine WC.seq ?_
    refine WC.region ?_
    refine SL.pure rfl rfl rfl (PureOp.fieldAddrT 0 Try.underlying127 rfl sz9 rfl rfl) ?_
    refine SL.pure rfl rfl rfl (PureOp.load (v := .string ((nth x.2.1.l i).1)) Try.underlying9 rfl rfl (fun _ => (CellIs.cells 2 rfl rfl))) ?_
    refine SL.calle rfl rfl rfl rfl rfl rfl callable53 (fun w hw => airport_ok ((nth x.2.1.l i).1) (by have q1 := hks _ (nth_mem (l := x.2.1.l) (i := i) (by omega)); simp only [maxLen] at q1; omega) w) ?_
    refine SL.norm [_, _, _] rfl ?_
    refine SL.pure rfl rfl rfl (PureOp.not rfl) ?_
    refine SL.pure rfl rfl rfl (PureOp.move rfl) ?_
    refine SL.newg 52 false rfl ?_
    refine SL.gpure (c := 2) rfl rfl rfl rfl rfl rfl rfl (PureOp.fieldAddrT 1 Try.underlying127 rfl sz9 rfl rfl) ?_
    refine SL.gpure (c := 2) rfl rfl rfl rfl rfl rfl rfl (PureOp.load (v := .string ((nth x.2.1.l i).2)) Try.underlying9 rfl rfl (fun _ => (CellIs.cells 2 rfl rfl))) ?_
    refine SL.gcalle (c := 2) rfl rfl rfl rfl rfl rfl rfl rfl rfl rfl callable53 (by intro hg; simp [gval] at hg; exact (fun w hw => airport_ok ((nth x.2.1.l i).2) (by have q1 := hks _ (nth_mem (l := x.2.1.l) (i := i) (by omega)); simp only [maxLen] at q1; omega) w)) ?_
    refine SL.norm [_, _, _] rfl ?_
    refine SL.gpure (c := 2) rfl rfl rfl rfl rfl rfl rfl (PureOp.not rfl) ?_
    refine SL.pure rfl rfl rfl (PureOp.or_ rfl rfl rfl rfl) ?_
    refine SL.nil_then ?_
    refine WC.cond rfl (fun h4 => ?_) (fun h4 => ?_)
    · try simp only [Bool.and_eq_true, Bool.or_eq_true, Bool.not_eq_true', Bool.not_eq_false', Bool.and_eq_false_iff, Bool.or_eq_false_iff, decide_eq_true_eq, decide_eq_false_iff_not, Int.not_lt, Int.not_le, ne_eq, Decidable.not_not] at h4
      refine WC.region ?_
      refine SL.pure rfl rfl rfl (PureOp.move rfl) ?_
      refine SL.pure rfl rfl rfl (PureOp.move rfl) ?_
      refine SL.pure rfl rfl rfl (PureOp.build bld93 rfl rfl) ?_
      refine SL.buildSlice rfl rfl Try.underlying63 elem93 rfl rfl rfl rfl (fun b5 hb5 => ?_)
      refine SL.norm [_, _, _, _] rfl ?_
      refine SL.append 1 rfl rfl Try.underlying63 elem93 rfl rfl rfl rfl (SrcIs.own 3 rfl) (by rfl) (by first | omega | exact at_max (by decide)) (by first | omega | exact at_max (by decide)) (fun ao3_ cap3_ => ?_)
      refine SL.itemxs 1 rfl (show _ = cellsOf encNF (L ++ [((5 : Int), (((⟨#[108, 105, 110, 107, 32]⟩) ++ (decS ((i : Nat) : Int))) : ByteArray))]) from by rw [cellsOf_append (l := L), cellsOf_one]; rfl) ?_
      refine SL.norm [_, _, _, _] rfl ?_
      refine SL.pure rfl rfl rfl (PureOp.assign rfl) ?_
      refine SL.nil_then ?_
      refine WC.seq ?_
      refine WC.seq ?_
      refine WC.region ?_
      refine SL.pure rfl rfl rfl (PureOp.fieldAddrT 0 Try.underlying127 rfl sz9 rfl rfl) ?_
      refine SL.pure rfl rfl rfl (PureOp.load (v := .string ((nth x.2.1.l i).1)) Try.underlying9 rfl rfl (fun _ => (CellIs.cells 2 rfl rfl))) ?_
      refine SL.pure rfl rfl rfl (PureOp.fieldAddrT 1 Try.underlying127 rfl sz9 rfl rfl) ?_
      refine SL.pure rfl rfl rfl (PureOp.load (v := .string ((nth x.2.1.l i).2)) Try.underlying9 rfl rfl (fun _ => (CellIs.cells 2 rfl rfl))) ?_
      refine SL.pure rfl rfl rfl (PureOp.eqls rfl rfl) ?_
      refine SL.nil_then ?_
      refine WC.cond rfl (fun h5 => ?_) (fun h5 => ?_)
      · try simp only [Bool.and_eq_true, Bool.or_eq_true, Bool.not_eq_true', Bool.not_eq_false', Bool.and_eq_false_iff, Bool.or_eq_false_iff, decide_eq_true_eq, decide_eq_false_iff_not, Int.not_lt, Int.not_le, ne_eq, Decidable.not_not] at h5
        refine WC.region ?_
        refine SL.pure rfl rfl rfl (PureOp.move rfl) ?_
        refine SL.pure rfl rfl rfl (PureOp.move rfl) ?_
        refine SL.pure rfl rfl rfl (PureOp.build bld93 rfl rfl) ?_
        refine SL.buildSlice rfl rfl Try.underlying63 elem93 rfl rfl rfl rfl (fun b6 hb6 => ?_)
        refine SL.norm [_, _, _, _, _] rfl ?_
        refine SL.append 1 rfl rfl Try.underlying63 elem93 rfl rfl rfl rfl (SrcIs.own 4 rfl) (by rfl) (by first | omega | exact at_max (by decide)) (by first | omega | exact at_max (by decide)) (fun ao4_ cap4_ => ?_)
        refine SL.itemxs 1 rfl (show _ = cellsOf encNF ((L ++ [((5 : Int), (((⟨#[108, 105, 110, 107, 32]⟩) ++ (decS ((i : Nat) : Int))) : ByteArray))]) ++ [((2 : Int), (((⟨#[108, 105, 110, 107, 32]⟩) ++ (decS ((i : Nat) : Int))) : ByteArray))]) from by rw [cellsOf_append (l := (L ++ [((5 : Int), (((⟨#[108, 105, 110, 107, 32]⟩) ++ (decS ((i : Nat) : Int))) : ByteArray))])), cellsOf_one]; rfl) ?_
        refine SL.norm [_, _, _, _, _] rfl ?_
        refine SL.pure rfl rfl rfl (PureOp.assign rfl) ?_
        refine SL.nil_then ?_
        refine WC.seq ?_
        refine WC.quiet rfl (by kernel_rfl) ?_
        refine SQ.pure rfl rfl rfl (PureOp.fieldAddrT 1 Try.underlying99 rfl sz97 rfl rfl) ?_
        refine SQ.pure rfl rfl rfl (PureOp.load (v := .slice x.2.1.ao x.2.1.l.length x.2.1.cap) Try.underlying97 rfl rfl (fun _ => (CellIs.cells 0 rfl rfl))) ?_
        refine SQ.pure rfl rfl rfl (PureOp.move rfl) ?_
        refine SQ.pure rfl rfl rfl (PureOp.sliceh Try.underlying97 sz127 rfl rfl (fun _ => by first | omega | exact at_max (by decide))) ?_
        refine SQ.pure rfl rfl rfl (PureOp.fieldAddrT 0 Try.underlying127 rfl sz9 rfl rfl) ?_
        refine SQ.pure rfl rfl rfl (PureOp.load (v := .string ((nth x.2.1.l i).1)) Try.underlying9 rfl rfl (fun _ => (CellIs.cells 2 rfl rfl))) ?_
        refine SQ.pure rfl rfl rfl (PureOp.fieldAddrT 1 Try.underlying127 rfl sz9 rfl rfl) ?_
        refine SQ.pure rfl rfl rfl (PureOp.load (v := .string ((nth x.2.1.l i).2)) Try.underlying9 rfl rfl (fun _ => (CellIs.cells 2 rfl rfl))) ?_
        refine SQ.calle rfl rfl rfl rfl rfl rfl callable67 (fun w hw => link_ok x.2.1.l _ _ _ (by omega) (nth x.2.1.l i).1 (nth x.2.1.l i).2 w (SliceIn.sub0 (sK.below hw.below) (show i ≤ x.2.1.l.length by omega))) ?_
        refine SQ.pure rfl rfl rfl (PureOp.geq rfl rfl) ?_
        refine SQ.nil_then ?_
        refine WC.cond rfl (fun h6 => ?_) (fun h6 => ?_)
        · try simp only [Bool.and_eq_true, Bool.or_eq_true, Bool.not_eq_true', Bool.not_eq_false', Bool.and_eq_false_iff, Bool.or_eq_false_iff, decide_eq_true_eq, decide_eq_false_iff_not, Int.not_lt, Int.not_le, ne_eq, Decidable.not_not] at h6
          refine WC.region ?_
          refine SL.pure rfl rfl rfl (PureOp.move rfl) ?_
          refine SL.pure rfl rfl rfl (PureOp.move rfl) ?_
          refine SL.pure rfl rfl rfl (PureOp.build bld93 rfl rfl) ?_
          refine SL.buildSlice rfl rfl Try.underlying63 elem93 rfl rfl rfl rfl (fun b7 hb7 => ?_)
          refine SL.norm [_, _, _, _, _, _] rfl ?_
          refine SL.append 1 rfl rfl Try.underlying63 elem93 rfl rfl rfl rfl (SrcIs.own 5 rfl) (by rfl) (by first | omega | exact at_max (by decide)) (by first | omega | exact at_max (by decide)) (fun ao5_ cap5_ => ?_)
          refine SL.itemxs 1 rfl (show _ = cellsOf encNF (((L ++ [((5 : Int), (((⟨#[108, 105, 110, 107, 32]⟩) ++ (decS ((i : Nat) : Int))) : ByteArray))]) ++ [((2 : Int), (((⟨#[108, 105, 110, 107, 32]⟩) ++ (decS ((i : Nat) : Int))) : ByteArray))]) ++ [((6 : Int), (((⟨#[108, 105, 110, 107, 32]⟩) ++ (decS ((i : Nat) : Int))) : ByteArray))]) from by rw [cellsOf_append (l := ((L ++ [((5 : Int), (((⟨#[108, 105, 110, 107, 32]⟩) ++ (decS ((i : Nat) : Int))) : ByteArray))]) ++ [((2 : Int), (((⟨#[108, 105, 110, 107, 32]⟩) ++ (decS ((i : Nat) : Int))) : ByteArray))])), cellsOf_one]; rfl) ?_
          refine SL.norm [_, _, _, _, _, _] rfl ?_
          refine SL.pure rfl rfl rfl (PureOp.assign rfl) ?_
          refine SL.nil ?_
          refine QX.normal_in ?_
          refine QX.then_ ?_
          refine WC.region ?_
          refine SL.pure rfl rfl rfl (PureOp.move rfl) ?_
          refine SL.pure rfl rfl rfl (PureOp.addN (k := 1) rfl rfl (fun _ => by first | omega | exact at_max (by decide))) ?_
          refine SL.pure rfl rfl rfl (PureOp.assign rfl) ?_
          refine SL.nil ?_
          refine QX.round (σ := Nat × Option Addr × Nat × Nat × List NF) (Ef := fun q_ => [(0, 0, .agg #[.int .i64 x.1, .slice x.2.1.ao x.2.1.l.length x.2.1.cap, .int .i64 x.2.2]), (1, 0, .pointer (some ⟨b1, 0, none⟩)), (2, 0, .slice none 0 0), (4, 0, .int .i64 ((q_.1 : Nat) : Int)), (3, 0, .slice q_.2.1 q_.2.2.2.1 q_.2.2.1)]) (Hf := fun q_ => [Item.cells b1 [.int .i64 x.1, .slice x.2.1.ao x.2.1.l.length x.2.1.cap, .int .i64 x.2.2] 99, Item.own w0.heap.size q_.2.1 q_.2.2.2.1 q_.2.2.1 93 2 (cellsOf encNF (q_.2.2.2.2))]) (I := fun q_ => q_.1 ≤ x.2.1.l.length ∧ q_.1 ≤ 128 ∧ FLs q_.2.2.2.2 q_.2.2.2.1 (2 + 3 * q_.1)) (μ := fun q_ => x.2.1.l.length - q_.1) (s := (i, a, c, n_, L)) 2 ((i + 1, ao5_, cap5_, ((n_ + 1) + 1) + 1, ((L ++ [((5 : Int), (((⟨#[108, 105, 110, 107, 32]⟩) ++ (decS ((i : Nat) : Int))) : ByteArray))]) ++ [((2 : Int), (((⟨#[108, 105, 110, 107, 32]⟩) ++ (decS ((i : Nat) : Int))) : ByteArray))]) ++ [((6 : Int), (((⟨#[108, 105, 110, 107, 32]⟩) ++ (decS ((i : Nat) : Int))) : ByteArray))])) ⟨⟨(by first | omega | (dsimp only; omega)), (by first | omega | (dsimp only; omega)), (by first | exact hF.mono (by omega) | exact (hF.snoc (by first | exact at_sz (by decide) | decide)).mono (by omega) | exact ((hF.snoc (by first | exact at_sz (by decide) | decide)).snoc (by first | exact at_sz (by decide) | decide)).mono (by omega) | exact (((hF.snoc (by first | exact at_sz (by decide) | decide)).snoc (by first | exact at_sz (by decide) | decide)).snoc (by first | exact at_sz (by decide) | decide)).mono (by omega))⟩, by first | omega | (dsimp only; omega)⟩ ⟨rfl, rfl, rfl, rfl, rfl, rfl, rfl, rfl, rfl, rfl, trivial⟩ rfl
        · try simp only [Bool.and_eq_true, Bool.or_eq_true, Bool.not_eq_true', Bool.not_eq_false', Bool.and_eq_false_iff, Bool.or_eq_false_iff, decide_eq_true_eq, decide_eq_false_iff_not, Int.not_lt, Int.not_le, ne_eq, Decidable.not_not] at h6
          refine WC.skip ?_
          refine QX.normal_in ?_
          refine QX.then_ ?_
          refine WC.region ?_
          refine SL.pure rfl rfl rfl (PureOp.move rfl) ?_
          refine SL.pure rfl rfl rfl (PureOp.addN (k := 1) rfl rfl (fun _ => by first | omega | exact at_max (by decide))) ?_
          refine SL.pure rfl rfl rfl (PureOp.assign rfl) ?_
          refine SL.nil ?_
          refine QX.round (σ := Nat × Option Addr × Nat × Nat × List NF) (Ef := fun q_ => [(0, 0, .agg #[.int .i64 x.1, .slice x.2.1.ao x.2.1.l.length x.2.1.cap, .int .i64 x.2.2]), (1, 0, .pointer (some ⟨b1, 0, none⟩)), (2, 0, .slice none 0 0), (4, 0, .int .i64 ((q_.1 : Nat) : Int)), (3, 0, .slice q_.2.1 q_.2.2.2.1 q_.2.2.1)]) (Hf := fun q_ => [Item.cells b1 [.int .i64 x.1, .slice x.2.1.ao x.2.1.l.length x.2.1.cap, .int .i64 x.2.2] 99, Item.own w0.heap.size q_.2.1 q_.2.2.2.1 q_.2.2.1 93 2 (cellsOf encNF (q_.2.2.2.2))]) (I := fun q_ => q_.1 ≤ x.2.1.l.length ∧ q_.1 ≤ 128 ∧ FLs q_.2.2.2.2 q_.2.2.2.1 (2 + 3 * q_.1)) (μ := fun q_ => x.2.1.l.length - q_.1) (s := (i, a, c, n_, L)) 2 ((i + 1, ao4_, cap4_, (n_ + 1) + 1, (L ++ [((5 : Int), (((⟨#[108, 105, 110, 107, 32]⟩) ++ (decS ((i : Nat) : Int))) : ByteArray))]) ++ [((2 : Int), (((⟨#[108, 105, 110, 107, 32]⟩) ++ (decS ((i : Nat) : Int))) : ByteArray))])) ⟨⟨(by first | omega | (dsimp only; omega)), (by first | omega | (dsimp only; omega)), (by first | exact hF.mono (by omega) | exact (hF.snoc (by first | exact at_sz (by decide) | decide)).mono (by omega) | exact ((hF.snoc (by first | exact at_sz (by decide) | decide)).snoc (by first | exact at_sz (by decide) | decide)).mono (by omega) | exact (((hF.snoc (by first | exact at_sz (by decide) | decide)).snoc (by first | exact at_sz (by decide) | decide)).snoc (by first | exact at_sz (by decide) | decide)).mono (by omega))⟩, by first | omega | (dsimp only; omega)⟩ ⟨rfl, rfl, rfl, rfl, rfl, rfl, rfl, rfl, rfl, rfl, trivial⟩ rfl
      · try simp only [Bool.and_eq_true, Bool.or_eq_true, Bool.not_eq_true', Bool.not_eq_false', Bool.and_eq_false_iff, Bool.or_eq_false_iff, decide_eq_true_eq, decide_eq_false_iff_not, Int.not_lt, Int.not_le, ne_eq, Decidable.not_not] at h5
        refine WC.skip ?_
        refine QX.then_ ?_
        refine WC.seq ?_
        refine WC.quiet rfl (by kernel_rfl) ?_
        refine SQ.pure rfl rfl rfl (PureOp.fieldAddrT 1 Try.underlying99 rfl sz97 rfl rfl) ?_
        refine SQ.pure rfl rfl rfl (PureOp.load (v := .slice x.2.1.ao x.2.1.l.length x.2.1.cap) Try.underlying97 rfl rfl (fun _ => (CellIs.cells 0 rfl rfl))) ?_
        refine SQ.pure rfl rfl rfl (PureOp.move rfl) ?_
        refine SQ.pure rfl rfl rfl (PureOp.sliceh Try.underlying97 sz127 rfl rfl (fun _ => by first | omega | exact at_max (by decide))) ?_
        refine SQ.pure rfl rfl rfl (PureOp.fieldAddrT 0 Try.underlying127 rfl sz9 rfl rfl) ?_
        refine SQ.pure rfl rfl rfl (PureOp.load (v := .string ((nth x.2.1.l i).1)) Try.underlying9 rfl rfl (fun _ => (CellIs.cells 2 rfl rfl))) ?_
        refine SQ.pure rfl rfl rfl (PureOp.fieldAddrT 1 Try.underlying127 rfl sz9 rfl rfl) ?_
        refine SQ.pure rfl rfl rfl (PureOp.load (v := .string ((nth x.2.1.l i).2)) Try.underlying9 rfl rfl (fun _ => (CellIs.cells 2 rfl rfl))) ?_
        refine SQ.calle rfl rfl rfl rfl rfl rfl callable67 (fun w hw => link_ok x.2.1.l _ _ _ (by omega) (nth x.2.1.l i).1 (nth x.2.1.l i).2 w (SliceIn.sub0 (sK.below hw.below) (show i ≤ x.2.1.l.length by omega))) ?_
        refine SQ.pure rfl rfl rfl (PureOp.geq rfl rfl) ?_
        refine SQ.nil_then ?_
        refine WC.cond rfl (fun h7 => ?_) (fun h7 => ?_)
        · try simp only [Bool.and_eq_true, Bool.or_eq_true, Bool.not_eq_true', Bool.not_eq_false', Bool.and_eq_false_iff, Bool.or_eq_false_iff, decide_eq_true_eq, decide_eq_false_iff_not, Int.not_lt, Int.not_le, ne_eq, Decidable.not_not] at h7
          refine WC.region ?_
          refine SL.pure rfl rfl rfl (PureOp.move rfl) ?_
          refine SL.pure rfl rfl rfl (PureOp.move rfl) ?_
          refine SL.pure rfl rfl rfl (PureOp.build bld93 rfl rfl) ?_
          refine SL.buildSlice rfl rfl Try.underlying63 elem93 rfl rfl rfl rfl (fun b8 hb8 => ?_)
          refine SL.norm [_, _, _, _, _] rfl ?_
          refine SL.append 1 rfl rfl Try.underlying63 elem93 rfl rfl rfl rfl (SrcIs.own 4 rfl) (by rfl) (by first | omega | exact at_max (by decide)) (by first | omega | exact at_max (by decide)) (fun ao6_ cap6_ => ?_)
          refine SL.itemxs 1 rfl (show _ = cellsOf encNF ((L ++ [((5 : Int), (((⟨#[108, 105, 110, 107, 32]⟩) ++ (decS ((i : Nat) : Int))) : ByteArray))]) ++ [((6 : Int), (((⟨#[108, 105, 110, 107, 32]⟩) ++ (decS ((i : Nat) : Int))) : ByteArray))]) from by rw [cellsOf_append (l := (L ++ [((5 : Int), (((⟨#[108, 105, 110, 107, 32]⟩) ++ (decS ((i : Nat) : Int))) : ByteArray))])), cellsOf_one]; rfl) ?_
          refine SL.norm [_, _, _, _, _] rfl ?_
          refine SL.pure rfl rfl rfl (PureOp.assign rfl) ?_
          refine SL.nil ?_
          refine QX.normal_in ?_
          refine QX.then_ ?_
          refine WC.region ?_
          refine SL.pure rfl rfl rfl (PureOp.move rfl) ?_
          refine SL.pure rfl rfl rfl (PureOp.addN (k := 1) rfl rfl (fun _ => by first | omega | exact at_max (by decide))) ?_
          refine SL.pure rfl rfl rfl (PureOp.assign rfl) ?_
          refine SL.nil ?_
          refine QX.round (σ := Nat × Option Addr × Nat × Nat × List NF) (Ef := fun q_ => [(0, 0, .agg #[.int .i64 x.1, .slice x.2.1.ao x.2.1.l.length x.2.1.cap, .int .i64 x.2.2]), (1, 0, .pointer (some ⟨b1, 0, none⟩)), (2, 0, .slice none 0 0), (4, 0, .int .i64 ((q_.1 : Nat) : Int)), (3, 0, .slice q_.2.1 q_.2.2.2.1 q_.2.2.1)]) (Hf := fun q_ => [Item.cells b1 [.int .i64 x.1, .slice x.2.1.ao x.2.1.l.length x.2.1.cap, .int .i64 x.2.2] 99, Item.own w0.heap.size q_.2.1 q_.2.2.2.1 q_.2.2.1 93 2 (cellsOf encNF (q_.2.2.2.2))]) (I := fun q_ => q_.1 ≤ x.2.1.l.length ∧ q_.1 ≤ 128 ∧ FLs q_.2.2.2.2 q_.2.2.2.1 (2 + 3 * q_.1)) (μ := fun q_ => x.2.1.l.length - q_.1) (s := (i, a, c, n_, L)) 2 ((i + 1, ao6_, cap6_, (n_ + 1) + 1, (L ++ [((5 : Int), (((⟨#[108, 105, 110, 107, 32]⟩) ++ (decS ((i : Nat) : Int))) : ByteArray))]) ++ [((6 : Int), (((⟨#[108, 105, 110, 107, 32]⟩) ++ (decS ((i : Nat) : Int))) : ByteArray))])) ⟨⟨(by first | omega | (dsimp only; omega)), (by first | omega | (dsimp only; omega)), (by first | exact hF.mono (by omega) | exact (hF.snoc (by first | exact at_sz (by decide) | decide)).mono (by omega) | exact ((hF.snoc (by first | exact at_sz (by decide) | decide)).snoc (by first | exact at_sz (by decide) | decide)).mono (by omega) | exact (((hF.snoc (by first | exact at_sz (by decide) | decide)).snoc (by first | exact at_sz (by decide) | decide)).snoc (by first | exact at_sz (by decide) | decide)).mono (by omega))⟩, by first | omega | (dsimp only; omega)⟩ ⟨rfl, rfl, rfl, rfl, rfl, rfl, rfl, rfl, rfl, rfl, trivial⟩ rfl
        · try simp only [Bool.and_eq_true, Bool.or_eq_true, Bool.not_eq_true', Bool.not_eq_false', Bool.and_eq_false_iff, Bool.or_eq_false_iff, decide_eq_true_eq, decide_eq_false_iff_not, Int.not_lt, Int.not_le, ne_eq, Decidable.not_not] at h7
          refine WC.skip ?_
          refine QX.normal_in ?_
          refine QX.then_ ?_
          refine WC.region ?_
          refine SL.pure rfl rfl rfl (PureOp.move rfl) ?_
          refine SL.pure rfl rfl rfl (PureOp.addN (k := 1) rfl rfl (fun _ => by first | omega | exact at_max (by decide))) ?_
          refine SL.pure rfl rfl rfl (PureOp.assign rfl) ?_
          refine SL.nil ?_
          refine QX.round (σ := Nat × Option Addr × Nat × Nat × List NF) (Ef := fun q_ => [(0, 0, .agg #[.int .i64 x.1, .slice x.2.1.ao x.2.1.l.length x.2.1.cap, .int .i64 x.2.2]), (1, 0, .pointer (some ⟨b1, 0, none⟩)), (2, 0, .slice none 0 0), (4, 0, .int .i64 ((q_.1 : Nat) : Int)), (3, 0, .slice q_.2.1 q_.2.2.2.1 q_.2.2.1)]) (Hf := fun q_ => [Item.cells b1 [.int .i64 x.1, .slice x.2.1.ao x.2.1.l.length x.2.1.cap, .int .i64 x.2.2] 99, Item.own w0.heap.size q_.2.1 q_.2.2.2.1 q_.2.2.1 93 2 (cellsOf encNF (q_.2.2.2.2))]) (I := fun q_ => q_.1 ≤ x.2.1.l.length ∧ q_.1 ≤ 128 ∧ FLs q_.2.2.2.2 q_.2.2.2.1 (2 + 3 * q_.1)) (μ := fun q_ => x.2.1.l.length - q_.1) (s := (i, a, c, n_, L)) 2 ((i + 1, ao3_, cap3_, n_ + 1, L ++ [((5 : Int), (((⟨#[108, 105, 110, 107, 32]⟩) ++ (decS ((i : Nat) : Int))) : ByteArray))])) ⟨⟨(by first | omega | (dsimp only; omega)), (by first | omega | (dsimp only; omega)), (by first | exact hF.mono (by omega) | exact (hF.snoc (by first | exact at_sz (by decide) | decide)).mono (by omega) | exact ((hF.snoc (by first | exact at_sz (by decide) | decide)).snoc (by first | exact at_sz (by decide) | decide)).mono (by omega) | exact (((hF.snoc (by first | exact at_sz (by decide) | decide)).snoc (by first | exact at_sz (by decide) | decide)).snoc (by first | exact at_sz (by decide) | decide)).mono (by omega))⟩, by first | omega | (dsimp only; omega)⟩ ⟨rfl, rfl, rfl, rfl, rfl, rfl, rfl, rfl, rfl, rfl, trivial⟩ rfl
    · try simp only [Bool.and_eq_true, Bool.or_eq_true, Bool.not_eq_true', Bool.not_eq_false', Bool.and_eq_false_iff, Bool.or_eq_false_iff, decide_eq_true_eq, decide_eq_false_iff_not, Int.not_lt, Int.not_le, ne_eq, Decidable.not_not] at h4
      refine WC.skip ?_
      refine QX.then_ ?_
      refine WC.seq ?_
      refine WC.seq ?_
      refine WC.region ?_
      refine SL.pure rfl rfl rfl (PureOp.fieldAddrT 0 Try.underlying127 rfl sz9 rfl rfl) ?_
      refine SL.pure rfl rfl rfl (PureOp.load (v := .string ((nth x.2.1.l i).1)) Try.underlying9 rfl rfl (fun _ => (CellIs.cells 2 rfl rfl))) ?_
      refine SL.pure rfl rfl rfl (PureOp.fieldAddrT 1 Try.underlying127 rfl sz9 rfl rfl) ?_
      refine SL.pure rfl rfl rfl (PureOp.load (v := .string ((nth x.2.1.l i).2)) Try.underlying9 rfl rfl (fun _ => (CellIs.cells 2 rfl rfl))) ?_
      refine SL.pure rfl rfl rfl (PureOp.eqls rfl rfl) ?_
      refine SL.nil_then ?_
      refine WC.cond rfl (fun h8 => ?_) (fun h8 => ?_)
      · try simp only [Bool.and_eq_true, Bool.or_eq_true, Bool.not_eq_true', Bool.not_eq_false', Bool.and_eq_false_iff, Bool.or_eq_false_iff, decide_eq_true_eq, decide_eq_false_iff_not, Int.not_lt, Int.not_le, ne_eq, Decidable.not_not] at h8
        refine WC.region ?_
        refine SL.pure rfl rfl rfl (PureOp.move rfl) ?_
        refine SL.pure rfl rfl rfl (PureOp.move rfl) ?_
        refine SL.pure rfl rfl rfl (PureOp.build bld93 rfl rfl) ?_
        refine SL.buildSlice rfl rfl Try.underlying63 elem93 rfl rfl rfl rfl (fun b9 hb9 => ?_)
        refine SL.norm [_, _, _, _] rfl ?_
        refine SL.append 1 rfl rfl Try.underlying63 elem93 rfl rfl rfl rfl (SrcIs.own 3 rfl) (by rfl) (by first | omega | exact at_max (by decide)) (by first | omega | exact at_max (by decide)) (fun ao7_ cap7_ => ?_)
        refine SL.itemxs 1 rfl (show _ = cellsOf encNF (L ++ [((2 : Int), (((⟨#[108, 105, 110, 107, 32]⟩) ++ (decS ((i : Nat) : Int))) : ByteArray))]) from by rw [cellsOf_append (l := L), cellsOf_one]; rfl) ?_
        refine SL.norm [_, _, _, _] rfl ?_
        refine SL.pure rfl rfl rfl (PureOp.assign rfl) ?_
        refine SL.nil_then ?_
        refine WC.seq ?_
        refine WC.quiet rfl (by kernel_rfl) ?_
        refine SQ.pure rfl rfl rfl (PureOp.fieldAddrT 1 Try.underlying99 rfl sz97 rfl rfl) ?_
        refine SQ.pure rfl rfl rfl (PureOp.load (v := .slice x.2.1.ao x.2.1.l.length x.2.1.cap) Try.underlying97 rfl rfl (fun _ => (CellIs.cells 0 rfl rfl))) ?_
        refine SQ.pure rfl rfl rfl (PureOp.move rfl) ?_
        refine SQ.pure rfl rfl rfl (PureOp.sliceh Try.underlying97 sz127 rfl rfl (fun _ => by first | omega | exact at_max (by decide))) ?_
        refine SQ.pure rfl rfl rfl (PureOp.fieldAddrT 0 Try.underlying127 rfl sz9 rfl rfl) ?_
        refine SQ.pure rfl rfl rfl (PureOp.load (v := .string ((nth x.2.1.l i).1)) Try.underlying9 rfl rfl (fun _ => (CellIs.cells 2 rfl rfl))) ?_
        refine SQ.pure rfl rfl rfl (PureOp.fieldAddrT 1 Try.underlying127 rfl sz9 rfl rfl) ?_
        refine SQ.pure rfl rfl rfl (PureOp.load (v := .string ((nth x.2.1.l i).2)) Try.underlying9 rfl rfl (fun _ => (CellIs.cells 2 rfl rfl))) ?_
        refine SQ.calle rfl rfl rfl rfl rfl rfl callable67 (fun w hw => link_ok x.2.1.l _ _ _ (by omega) (nth x.2.1.l i).1 (nth x.2.1.l i).2 w (SliceIn.sub0 (sK.below hw.below) (show i ≤ x.2.1.l.length by omega))) ?_
        refine SQ.pure rfl rfl rfl (PureOp.geq rfl rfl) ?_
        refine SQ.nil_then ?_
        refine WC.cond rfl (fun h9 => ?_) (fun h9 => ?_)
        · try simp only [Bool.and_eq_true, Bool.or_eq_true, Bool.not_eq_true', Bool.not_eq_false', Bool.and_eq_false_iff, Bool.or_eq_false_iff, decide_eq_true_eq, decide_eq_false_iff_not, Int.not_lt, Int.not_le, ne_eq, Decidable.not_not] at h9
          refine WC.region ?_
          refine SL.pure rfl rfl rfl (PureOp.move rfl) ?_
          refine SL.pure rfl rfl rfl (PureOp.move rfl) ?_
          refine SL.pure rfl rfl rfl (PureOp.build bld93 rfl rfl) ?_
          refine SL.buildSlice rfl rfl Try.underlying63 elem93 rfl rfl rfl rfl (fun b10 hb10 => ?_)
          refine SL.norm [_, _, _, _, _] rfl ?_
          refine SL.append 1 rfl rfl Try.underlying63 elem93 rfl rfl rfl rfl (SrcIs.own 4 rfl) (by rfl) (by first | omega | exact at_max (by decide)) (by first | omega | exact at_max (by decide)) (fun ao8_ cap8_ => ?_)
          refine SL.itemxs 1 rfl (show _ = cellsOf encNF ((L ++ [((2 : Int), (((⟨#[108, 105, 110, 107, 32]⟩) ++ (decS ((i : Nat) : Int))) : ByteArray))]) ++ [((6 : Int), (((⟨#[108, 105, 110, 107, 32]⟩) ++ (decS ((i : Nat) : Int))) : ByteArray))]) from by rw [cellsOf_append (l := (L ++ [((2 : Int), (((⟨#[108, 105, 110, 107, 32]⟩) ++ (decS ((i : Nat) : Int))) : ByteArray))])), cellsOf_one]; rfl) ?_
          refine SL.norm [_, _, _, _, _] rfl ?_
          refine SL.pure rfl rfl rfl (PureOp.assign rfl) ?_
          refine SL.nil ?_
          refine QX.normal_in ?_
          refine QX.then_ ?_
          refine WC.region ?_
          refine SL.pure rfl rfl rfl (PureOp.move rfl) ?_
          refine SL.pure rfl rfl rfl (PureOp.addN (k := 1) rfl rfl (fun _ => by first | omega | exact at_max (by decide))) ?_
          refine SL.pure rfl rfl rfl (PureOp.assign rfl) ?_
          refine SL.nil ?_
          refine QX.round (σ := Nat × Option Addr × Nat × Nat × List NF) (Ef := fun q_ => [(0, 0, .agg #[.int .i64 x.1, .slice x.2.1.ao x.2.1.l.length x.2.1.cap, .int .i64 x.2.2]), (1, 0, .pointer (some ⟨b1, 0, none⟩)), (2, 0, .slice none 0 0), (4, 0, .int .i64 ((q_.1 : Nat) : Int)), (3, 0, .slice q_.2.1 q_.2.2.2.1 q_.2.2.1)]) (Hf := fun q_ => [Item.cells b1 [.int .i64 x.1, .slice x.2.1.ao x.2.1.l.length x.2.1.cap, .int .i64 x.2.2] 99, Item.own w0.heap.size q_.2.1 q_.2.2.2.1 q_.2.2.1 93 2 (cellsOf encNF (q_.2.2.2.2))]) (I := fun q_ => q_.1 ≤ x.2.1.l.length ∧ q_.1 ≤ 128 ∧ FLs q_.2.2.2.2 q_.2.2.2.1 (2 + 3 * q_.1)) (μ := fun q_ => x.2.1.l.length - q_.1) (s := (i, a, c, n_, L)) 2 ((i + 1, ao8_, cap8_, (n_ + 1) + 1, (L ++ [((2 : Int), (((⟨#[108, 105, 110, 107, 32]⟩) ++ (decS ((i : Nat) : Int))) : ByteArray))]) ++ [((6 : Int), (((⟨#[108, 105, 110, 107, 32]⟩) ++ (decS ((i : Nat) : Int))) : ByteArray))])) ⟨⟨(by first | omega | (dsimp only; omega)), (by first | omega | (dsimp only; omega)), (by first | exact hF.mono (by omega) | exact (hF.snoc (by first | exact at_sz (by decide) | decide)).mono (by omega) | exact ((hF.snoc (by first | exact at_sz (by decide) | decide)).snoc (by first | exact at_sz (by decide) | decide)).mono (by omega) | exact (((hF.snoc (by first | exact at_sz (by decide) | decide)).snoc (by first | exact at_sz (by decide) | decide)).snoc (by first | exact at_sz (by decide) | decide)).mono (by omega))⟩, by first | omega | (dsimp only; omega)⟩ ⟨rfl, rfl, rfl, rfl, rfl, rfl, rfl, rfl, rfl, rfl, trivial⟩ rfl
        · try simp only [Bool.and_eq_true, Bool.or_eq_true, Bool.not_eq_true', Bool.not_eq_false', Bool.and_eq_false_iff, Bool.or_eq_false_iff, decide_eq_true_eq, decide_eq_false_iff_not, Int.not_lt, Int.not_le, ne_eq, Decidable.not_not] at h9
          refine WC.skip ?_
          refine QX.normal_in ?_
          refine QX.then_ ?_
          refine WC.region ?_
          refine SL.pure rfl rfl rfl (PureOp.move rfl) ?_
          refine SL.pure rfl rfl rfl (PureOp.addN (k := 1) rfl rfl (fun _ => by first | omega | exact at_max (by decide))) ?_
          refine SL.pure rfl rfl rfl (PureOp.assign rfl) ?_
          refine SL.nil ?_
          refine QX.round (σ := Nat × Option Addr × Nat × Nat × List NF) (Ef := fun q_ => [(0, 0, .agg #[.int .i64 x.1, .slice x.2.1.ao x.2.1.l.length x.2.1.cap, .int .i64 x.2.2]), (1, 0, .pointer (some ⟨b1, 0, none⟩)), (2, 0, .slice none 0 0), (4, 0, .int .i64 ((q_.1 : Nat) : Int)), (3, 0, .slice q_.2.1 q_.2.2.2.1 q_.2.2.1)]) (Hf := fun q_ => [Item.cells b1 [.int .i64 x.1, .slice x.2.1.ao x.2.1.l.length x.2.1.cap, .int .i64 x.2.2] 99, Item.own w0.heap.size q_.2.1 q_.2.2.2.1 q_.2.2.1 93 2 (cellsOf encNF (q_.2.2.2.2))]) (I := fun q_ => q_.1 ≤ x.2.1.l.length ∧ q_.1 ≤ 128 ∧ FLs q_.2.2.2.2 q_.2.2.2.1 (2 + 3 * q_.1)) (μ := fun q_ => x.2.1.l.length - q_.1) (s := (i, a, c, n_, L)) 2 ((i + 1, ao7_, cap7_, n_ + 1, L ++ [((2 : Int), (((⟨#[108, 105, 110, 107, 32]⟩) ++ (decS ((i : Nat) : Int))) : ByteArray))])) ⟨⟨(by first | omega | (dsimp only; omega)), (by first | omega | (dsimp only; omega)), (by first | exact hF.mono (by omega) | exact (hF.snoc (by first | exact at_sz (by decide) | decide)).mono (by omega) | exact ((hF.snoc (by first | exact at_sz (by decide) | decide)).snoc (by first | exact at_sz (by decide) | decide)).mono (by omega) | exact (((hF.snoc (by first | exact at_sz (by decide) | decide)).snoc (by first | exact at_sz (by decide) | decide)).snoc (by first | exact at_sz (by decide) | decide)).mono (by omega))⟩, by first | omega | (dsimp only; omega)⟩ ⟨rfl, rfl, rfl, rfl, rfl, rfl, rfl, rfl, rfl, rfl, trivial⟩ rfl
      · try simp only [Bool.and_eq_true, Bool.or_eq_true, Bool.not_eq_true', Bool.not_eq_false', Bool.and_eq_false_iff, Bool.or_eq_false_iff, decide_eq_true_eq, decide_eq_false_iff_not, Int.not_lt, Int.not_le, ne_eq, Decidable.not_not] at h8
        refine WC.skip ?_
        refine QX.then_ ?_
        refine WC.seq ?_
        refine WC.quiet rfl (by kernel_rfl) ?_
        refine SQ.pure rfl rfl rfl (PureOp.fieldAddrT 1 Try.underlying99 rfl sz97 rfl rfl) ?_
        refine SQ.pure rfl rfl rfl (PureOp.load (v := .slice x.2.1.ao x.2.1.l.length x.2.1.cap) Try.underlying97 rfl rfl (fun _ => (CellIs.cells 0 rfl rfl))) ?_
        refine SQ.pure rfl rfl rfl (PureOp.move rfl) ?_
        refine SQ.pure rfl rfl rfl (PureOp.sliceh Try.underlying97 sz127 rfl rfl (fun _ => by first | omega | exact at_max (by decide))) ?_
        refine SQ.pure rfl rfl rfl (PureOp.fieldAddrT 0 Try.underlying127 rfl sz9 rfl rfl) ?_
        refine SQ.pure rfl rfl rfl (PureOp.load (v := .string ((nth x.2.1.l i).1)) Try.underlying9 rfl rfl (fun _ => (CellIs.cells 2 rfl rfl))) ?_
        refine SQ.pure rfl rfl rfl (PureOp.fieldAddrT 1 Try.underlying127 rfl sz9 rfl rfl) ?_
        refine SQ.pure rfl rfl rfl (PureOp.load (v := .string ((nth x.2.1.l i).2)) Try.underlying9 rfl rfl (fun _ => (CellIs.cells 2 rfl rfl))) ?_
        refine SQ.calle rfl rfl rfl rfl rfl rfl callable67 (fun w hw => link_ok x.2.1.l _ _ _ (by omega) (nth x.2.1.l i).1 (nth x.2.1.l i).2 w (SliceIn.sub0 (sK.below hw.below) (show i ≤ x.2.1.l.length by omega))) ?_
        refine SQ.pure rfl rfl rfl (PureOp.geq rfl rfl) ?_
        refine SQ.nil_then ?_
        refine WC.cond rfl (fun h10 => ?_) (fun h10 => ?_)
        · try simp only [Bool.and_eq_true, Bool.or_eq_true, Bool.not_eq_true', Bool.not_eq_false', Bool.and_eq_false_iff, Bool.or_eq_false_iff, decide_eq_true_eq, decide_eq_false_iff_not, Int.not_lt, Int.not_le, ne_eq, Decidable.not_not] at h10
          refine WC.region ?_
          refine SL.pure rfl rfl rfl (PureOp.move rfl) ?_
          refine SL.pure rfl rfl rfl (PureOp.move rfl) ?_
          refine SL.pure rfl rfl rfl (PureOp.build bld93 rfl rfl) ?_
          refine SL.buildSlice rfl rfl Try.underlying63 elem93 rfl rfl rfl rfl (fun b11 hb11 => ?_)
          refine SL.norm [_, _, _, _] rfl ?_
          refine SL.append 1 rfl rfl Try.underlying63 elem93 rfl rfl rfl rfl (SrcIs.own 3 rfl) (by rfl) (by first | omega | exact at_max (by decide)) (by first | omega | exact at_max (by decide)) (fun ao9_ cap9_ => ?_)
          refine SL.itemxs 1 rfl (show _ = cellsOf encNF (L ++ [((6 : Int), (((⟨#[108, 105, 110, 107, 32]⟩) ++ (decS ((i : Nat) : Int))) : ByteArray))]) from by rw [cellsOf_append (l := L), cellsOf_one]; rfl) ?_
          refine SL.norm [_, _, _, _] rfl ?_
          refine SL.pure rfl rfl rfl (PureOp.assign rfl) ?_
          refine SL.nil ?_
          refine QX.normal_in ?_
          refine QX.then_ ?_
          refine WC.region ?_
          refine SL.pure rfl rfl rfl (PureOp.move rfl) ?_
          refine SL.pure rfl rfl rfl (PureOp.addN (k := 1) rfl rfl (fun _ => by first | omega | exact at_max (by decide))) ?_
          refine SL.pure rfl rfl rfl (PureOp.assign rfl) ?_
          refine SL.nil ?_
          refine QX.round (σ := Nat × Option Addr × Nat × Nat × List NF) (Ef := fun q_ => [(0, 0, .agg #[.int .i64 x.1, .slice x.2.1.ao x.2.1.l.length x.2.1.cap, .int .i64 x.2.2]), (1, 0, .pointer (some ⟨b1, 0, none⟩)), (2, 0, .slice none 0 0), (4, 0, .int .i64 ((q_.1 : Nat) : Int)), (3, 0, .slice q_.2.1 q_.2.2.2.1 q_.2.2.1)]) (Hf := fun q_ => [Item.cells b1 [.int .i64 x.1, .slice x.2.1.ao x.2.1.l.length x.2.1.cap, .int .i64 x.2.2] 99, Item.own w0.heap.size q_.2.1 q_.2.2.2.1 q_.2.2.1 93 2 (cellsOf encNF (q_.2.2.2.2))]) (I := fun q_ => q_.1 ≤ x.2.1.l.length ∧ q_.1 ≤ 128 ∧ FLs q_.2.2.2.2 q_.2.2.2.1 (2 + 3 * q_.1)) (μ := fun q_ => x.2.1.l.length - q_.1) (s := (i, a, c, n_, L)) 2 ((i + 1, ao9_, cap9_, n_ + 1, L ++ [((6 : Int), (((⟨#[108, 105, 110, 107, 32]⟩) ++ (decS ((i : Nat) : Int))) : ByteArray))])) ⟨⟨(by first | omega | (dsimp only; omega)), (by first | omega | (dsimp only; omega)), (by first | exact hF.mono (by omega) | exact (hF.snoc (by first | exact at_sz (by decide) | decide)).mono (by omega) | exact ((hF.snoc (by first | exact at_sz (by decide) | decide)).snoc (by first | exact at_sz (by decide) | decide)).mono (by omega) | exact (((hF.snoc (by first | exact at_sz (by decide) | decide)).snoc (by first | exact at_sz (by decide) | decide)).snoc (by first | exact at_sz (by decide) | decide)).mono (by omega))⟩, by first | omega | (dsimp only; omega)⟩ ⟨rfl, rfl, rfl, rfl, rfl, rfl, rfl, rfl, rfl, rfl, trivial⟩ rfl
        · try simp only [Bool.and_eq_true, Bool.or_eq_true, Bool.not_eq_true', Bool.not_eq_false', Bool.and_eq_false_iff, Bool.or_eq_false_iff, decide_eq_true_eq, decide_eq_false_iff_not, Int.not_lt, Int.not_le, ne_eq, Decidable.not_not] at h10
          refine WC.skip ?_
          refine QX.normal_in ?_
          refine QX.then_ ?_
          refine WC.region ?_
          refine SL.pure rfl rfl rfl (PureOp.move rfl) ?_
          refine SL.pure rfl rfl rfl (PureOp.addN (k := 1) rfl rfl (fun _ => by first | omega | exact at_max (by decide))) ?_
          refine SL.pure rfl rfl rfl (PureOp.assign rfl) ?_
          refine SL.nil ?_
          refine QX.round (σ := Nat × Option Addr × Nat × Nat × List NF) (Ef := fun q_ => [(0, 0, .agg #[.int .i64 x.1, .slice x.2.1.ao x.2.1.l.length x.2.1.cap, .int .i64 x.2.2]), (1, 0, .pointer (some ⟨b1, 0, none⟩)), (2, 0, .slice none 0 0), (4, 0, .int .i64 ((q_.1 : Nat) : Int)), (3, 0, .slice q_.2.1 q_.2.2.2.1 q_.2.2.1)]) (Hf := fun q_ => [Item.cells b1 [.int .i64 x.1, .slice x.2.1.ao x.2.1.l.length x.2.1.cap, .int .i64 x.2.2] 99, Item.own w0.heap.size q_.2.1 q_.2.2.2.1 q_.2.2.1 93 2 (cellsOf encNF (q_.2.2.2.2))]) (I := fun q_ => q_.1 ≤ x.2.1.l.length ∧ q_.1 ≤ 128 ∧ FLs q_.2.2.2.2 q_.2.2.2.1 (2 + 3 * q_.1)) (μ := fun q_ => x.2.1.l.length - q_.1) (s := (i, a, c, n_, L)) 2 ((i + 1, a, c, n_, L)) ⟨⟨(by first | omega | (dsimp only; omega)), (by first | omega | (dsimp only; omega)), (by first | exact hF.mono (by omega) | exact (hF.snoc (by first | exact at_sz (by decide) | decide)).mono (by omega) | exact ((hF.snoc (by first | exact at_sz (by decide) | decide)).snoc (by first | exact at_sz (by decide) | decide)).mono (by omega) | exact (((hF.snoc (by first | exact at_sz (by decide) | decide)).snoc (by first | exact at_sz (by decide) | decide)).snoc (by first | exact at_sz (by decide) | decide)).mono (by omega))⟩, by first | omega | (dsimp only; omega)⟩ ⟨rfl, rfl, rfl, rfl, rfl, rfl, rfl, rfl, rfl, rfl, trivial⟩ rfl
  · try simp only [Bool.and_eq_true, Bool.or_eq_true, Bool.not_eq_true', Bool.not_eq_false', Bool.and_eq_false_iff, Bool.or_eq_false_iff, decide_eq_true_eq, decide_eq_false_iff_not, Int.not_lt, Int.not_le, ne_eq, Decidable.not_not] at h3
    refine WC.exit ?_
    refine QX.exit_then ?_
    refine QX.exit_then ?_
    refine QX.exit_hit ?_
    refine QX.then_ ?_
    refine WC.seq ?_
    refine WC.seq ?_
    refine WC.region ?_
    refine SL.pure rfl rfl rfl (PureOp.fieldAddrT 2 Try.underlying99 rfl sz3 rfl rfl) ?_
    refine SL.pure rfl rfl rfl (PureOp.load (v := .int .i64 x.2.2) Try.underlying3 rfl rfl (fun _ => (CellIs.cells 0 rfl rfl))) ?_
    refine SL.pure rfl rfl rfl (PureOp.lss rfl rfl) ?_
    refine SL.pure rfl rfl rfl (PureOp.move rfl) ?_
    refine SL.newg 91 false rfl ?_
    refine SL.gpure (c := 2) rfl rfl rfl rfl rfl rfl rfl (PureOp.fieldAddrT 2 Try.underlying99 rfl sz3 rfl rfl) ?_
    refine SL.gpure (c := 2) rfl rfl rfl rfl rfl rfl rfl (PureOp.load (v := .int .i64 x.2.2) Try.underlying3 rfl rfl (fun _ => (CellIs.cells 0 rfl rfl))) ?_
    refine SL.gpure (c := 2) rfl rfl rfl rfl rfl rfl rfl (PureOp.gtr rfl rfl) ?_
    refine SL.pure rfl rfl rfl (PureOp.or_ rfl rfl rfl rfl) ?_
    refine SL.nil_then ?_
    refine WC.cond rfl (fun h11 => ?_) (fun h11 => ?_)
    · try simp only [Bool.and_eq_true, Bool.or_eq_true, Bool.not_eq_true', Bool.not_eq_false', Bool.and_eq_false_iff, Bool.or_eq_false_iff, decide_eq_true_eq, decide_eq_false_iff_not, Int.not_lt, Int.not_le, ne_eq, Decidable.not_not] at h11
      refine WC.region ?_
      refine SL.pure rfl rfl rfl (PureOp.move rfl) ?_
      refine SL.pure rfl rfl rfl (PureOp.build bld93 rfl rfl) ?_
      refine SL.buildSlice rfl rfl Try.underlying63 elem93 rfl rfl rfl rfl (fun b12 hb12 => ?_)
      refine SL.norm [_, _, _] rfl ?_
      refine SL.append 1 rfl rfl Try.underlying63 elem93 rfl rfl rfl rfl (SrcIs.own 2 rfl) (by rfl) (by first | omega | exact at_max (by decide)) (by first | omega | exact at_max (by decide)) (fun ao10_ cap10_ => ?_)
      refine SL.itemxs 1 rfl (show _ = cellsOf encNF (L ++ [((2 : Int), ((⟨#[109, 105, 108, 101, 115]⟩) : ByteArray))]) from by rw [cellsOf_append (l := L), cellsOf_one]; rfl) ?_
      refine SL.norm [_, _, _] rfl ?_
      refine SL.pure rfl rfl rfl (PureOp.assign rfl) ?_
      refine SL.nil_then ?_
      refine WC.seq ?_
      refine WC.region ?_
      refine SL.pure rfl rfl rfl (PureOp.move rfl) ?_
      refine SL.pure rfl rfl rfl (PureOp.assign rfl) ?_
      refine SL.nil_then ?_
      refine WC.ret ?_
      refine QX.ret1 rfl rfl ?_
      intro w hw
      exact ⟨_, _, _, _, rfl, (by first | exact hF.mono (by omega) | exact (hF.snoc (by first | exact at_sz (by decide) | decide)).mono (by omega) | exact ((hF.snoc (by first | exact at_sz (by decide) | decide)).snoc (by first | exact at_sz (by decide) | decide)).mono (by omega) | exact (((hF.snoc (by first | exact at_sz (by decide) | decide)).snoc (by first | exact at_sz (by decide) | decide)).snoc (by first | exact at_sz (by decide) | decide)).mono (by omega)), hw.mem (i := 1) rfl⟩
    · try simp only [Bool.and_eq_true, Bool.or_eq_true, Bool.not_eq_true', Bool.not_eq_false', Bool.and_eq_false_iff, Bool.or_eq_false_iff, decide_eq_true_eq, decide_eq_false_iff_not, Int.not_lt, Int.not_le, ne_eq, Decidable.not_not] at h11
      refine WC.skip ?_
      refine QX.then_ ?_
      refine WC.seq ?_
      refine WC.region ?_
      refine SL.pure rfl rfl rfl (PureOp.move rfl) ?_
      refine SL.pure rfl rfl rfl (PureOp.assign rfl) ?_
      refine SL.nil_then ?_
      refine WC.ret ?_
      refine QX.ret1 rfl rfl ?_
      intro w hw
      exact ⟨_, _, _, _, rfl, (by first | exact hF.mono (by omega) | exact (hF.snoc (by first | exact at_sz (by decide) | decide)).mono (by omega) | exact ((hF.snoc (by first | exact at_sz (by decide) | decide)).snoc (by first | exact at_sz (by decide) | decide)).mono (by omega) | exact (((hF.snoc (by first | exact at_sz (by decide) | decide)).snoc (by first | exact at_sz (by decide) | decide)).snoc (by first | exact at_sz (by decide) | decide)).mono (by omega)), hw.mem (i := 1) rfl⟩

set_option maxHeartbeats 4000000 in
set_option maxRecDepth 100000 in
theorem inner_ok (oa la : Option Addr) (on oc ln lc B C : Nat) (L K : List NF) (s : ByteArray) (hF : LnB L on B) (hK : FLs K ln C) (hs : s.size ≤ 100) (hB : B + C ≤ 1000000000) (w0 : World) : MC Try.prog 40 [.slice oa on oc, .string s, .slice la ln lc] w0 [Item.own w0.heap.size oa on oc 93 2 (cellsOf encNF L), Item.own w0.heap.size la ln lc 93 2 (cellsOf encNF K)] (fun y : Option Addr × Nat × List NF => .slice y.1 (on + ln) y.2.1) (fun y => [Item.own w0.heap.size y.1 (on + ln) y.2.1 93 2 (cellsOf encNF y.2.2), Item.own w0.heap.size la ln lc 93 2 (cellsOf encNF K)]) (fun y => LnB y.2.2 (on + ln) (B + C)) (fun _ => []) := by
  have hFl := hF.le
  have hKl := hK.ln.le
  have hKn := hK.ln.len
  refine mcalls (N := 32) Try.func40 rfl rfl rfl ?_
  intro X
  show WC _ _ _ _ _ _ _ [Item.own w0.heap.size oa on oc 93 2 (cellsOf encNF L), Item.own w0.heap.size la ln lc 93 2 (cellsOf encNF K), X]
  refine WC.seq ?_
  refine WC.region ?_
  refine SL.pure rfl rfl rfl (PureOp.assign rfl) ?_
  refine SL.nil_then ?_
  refine WC.seq ?_
  refine WC.seq ?_
  refine WC.region ?_
  refine SL.pure rfl rfl rfl (PureOp.assign rfl) ?_
  refine SL.nil_then ?_
  refine WC.block ?_
  refine WC.loop (σ := Nat × Option Addr × Nat × Nat × List NF) (fun q_ => [(1, 0, .string s), (2, 0, .slice la ln lc), (6, 0, .slice none 0 0), (7, 0, .int .i64 ((q_.1 : Nat) : Int)), (0, 0, .slice q_.2.1 q_.2.2.2.1 q_.2.2.1)]) (fun q_ => [Item.own w0.heap.size q_.2.1 q_.2.2.2.1 q_.2.2.1 93 2 (cellsOf encNF (q_.2.2.2.2)), Item.own w0.heap.size la ln lc 93 2 (cellsOf encNF K), X]) (fun q_ => q_.1 ≤ ln ∧ q_.2.2.2.1 = on + q_.1 ∧ LnB q_.2.2.2.2 q_.2.2.2.1 (B + q_.1)) (fun q_ => ln - q_.1) 3 ((0, oa, oc, on, L)) (⟨Nat.zero_le _, rfl, hF⟩) ⟨rfl, rfl, rfl, rfl, rfl, rfl, rfl, rfl, rfl, rfl, trivial⟩ rfl ?_
  rintro ⟨k, a, c, n_, M⟩ ⟨hk, hn_, hM⟩
  try dsimp only at *
  refine WC.seq ?_
  refine WC.seq ?_
  refine WC.region ?_
  refine SL.pure rfl rfl rfl (PureOp.move rfl) ?_
  refine SL.pure rfl rfl rfl (PureOp.move rfl) ?_
  refine SL.pure rfl rfl rfl (PureOp.len rfl Try.underlying63) ?_
  refine SL.pure rfl rfl rfl (PureOp.lss rfl rfl) ?_
  refine SL.nil_then ?_
  refine WC.cond rfl (fun h1 => ?_) (fun h1 => ?_)
  · try simp only [Bool.and_eq_true, Bool.or_eq_true, Bool.not_eq_true', Bool.not_eq_false', Bool.and_eq_false_iff, Bool.or_eq_false_iff, decide_eq_true_eq, decide_eq_false_iff_not, Int.not_lt, Int.not_le, ne_eq, Decidable.not_not] at h1
    refine WC.skip ?_
    refine QX.then_ ?_
    refine WC.seq ?_
    refine WC.block ?_
    refine WC.drawh ([Item.triv, Item.own w0.heap.size la ln lc 93 2 (cellsOf encNF K), X]) 18 [false, false, false, false, false, false, false, false, false, false, false, false, false, false, false, false, false, false] rfl rfl rfl ?_
    refine SD.take 0 [true, false, false, false, false, false, false, false, false, false, false, false, false, false, false, false, false, false] rfl (by kernel_rfl) rfl (fun _ h => (HeapOk.settriv h (i := 0) rfl)) rfl rfl rfl (PureOp.move rfl) ?_
    refine SD.take 1 [true, true, false, false, false, false, false, false, false, false, false, false, false, false, false, false, false, false] rfl (by kernel_rfl) rfl (fun _ h => (HeapOk.settriv h (i := 0) rfl)) rfl rfl rfl (PureOp.move rfl) ?_
    refine SD.take 2 [true, true, true, false, false, false, false, false, false, false, false, false, false, false, false, false, false, false] rfl (by kernel_rfl) rfl (fun _ h => (HeapOk.settriv h (i := 0) rfl)) rfl rfl rfl (PureOp.move rfl) ?_
    refine SD.take 3 [true, true, true, true, false, false, false, false, false, false, false, false, false, false, false, false, false, false] rfl (by kernel_rfl) rfl (fun _ h => (HeapOk.settriv h (i := 0) rfl)) rfl rfl rfl (PureOp.indexAddrN Try.underlying63 sz93 rfl rfl (AoOk.own 1 rfl) (fun _ => by first | omega | (have q1 : (⟨#[32]⟩ : ByteArray).size = 1 := rfl; omega) | (have q1 : (⟨#[32]⟩ : ByteArray).size = 1 := rfl; have q2 := hK.sz _ (nth_mem (l := K) (i := k) (by omega)); rw [ByteArray.size_append]; omega))) ?_
    refine SD.take 4 [true, true, true, true, true, false, false, false, false, false, false, false, false, false, false, false, false, false] rfl (by kernel_rfl) rfl (fun _ h => (HeapOk.settriv h (i := 0) rfl)) rfl rfl rfl (PureOp.fieldAddr 0 Try.underlying93 rfl rfl sz31 rfl) ?_
    refine SD.take 5 [true, true, true, true, true, true, false, false, false, false, false, false, false, false, false, false, false, false] rfl (by kernel_rfl) rfl (fun _ h => (HeapOk.settriv h (i := 0) rfl)) rfl rfl rfl (PureOp.load (v := .int .i64 ((nth K k).1)) Try.underlying31 rfl rfl (fun _ => (CellIs.ownc 1 rfl k 0 (by exact cellsOf_get encNF_len _ _ _ (by omega) (by decide))))) ?_
    refine SD.take 6 [true, true, true, true, true, true, true, false, false, false, false, false, false, false, false, false, false, false] rfl (by kernel_rfl) rfl (fun _ h => (HeapOk.settriv h (i := 0) rfl)) rfl rfl rfl (PureOp.move rfl) ?_
    refine SD.take 7 [true, true, true, true, true, true, true, true, false, false, false, false, false, false, false, false, false, false] rfl (by kernel_rfl) rfl (fun _ h => (HeapOk.settriv h (i := 0) rfl)) rfl rfl rfl (PureOp.adds rfl rfl (fun _ => by first | omega | (have q1 : (⟨#[32]⟩ : ByteArray).size = 1 := rfl; omega) | (have q1 : (⟨#[32]⟩ : ByteArray).size = 1 := rfl; have q2 := hK.sz _ (nth_mem (l := K) (i := k) (by omega)); rw [ByteArray.size_append]; omega))) ?_
    refine SD.take 8 [true, true, true, true, true, true, true, true, true, false, false, false, false, false, false, false, false, false] rfl (by kernel_rfl) rfl (fun _ h => (HeapOk.settriv h (i := 0) rfl)) rfl rfl rfl (PureOp.move rfl) ?_
    refine SD.take 9 [true, true, true, true, true, true, true, true, true, true, false, false, false, false, false, false, false, false] rfl (by kernel_rfl) rfl (fun _ h => (HeapOk.settriv h (i := 0) rfl)) rfl rfl rfl (PureOp.move rfl) ?_
    refine SD.take 10 [true, true, true, true, true, true, true, true, true, true, true, false, false, false, false, false, false, false] rfl (by kernel_rfl) rfl (fun _ h => (HeapOk.settriv h (i := 0) rfl)) rfl rfl rfl (PureOp.indexAddrN Try.underlying63 sz93 rfl rfl (AoOk.own 1 rfl) (fun _ => by first | omega | (have q1 : (⟨#[32]⟩ : ByteArray).size = 1 := rfl; omega) | (have q1 : (⟨#[32]⟩ : ByteArray).size = 1 := rfl; have q2 := hK.sz _ (nth_mem (l := K) (i := k) (by omega)); rw [ByteArray.size_append]; omega))) ?_
    refine SD.take 11 [true, true, true, true, true, true, true, true, true, true, true, true, false, false, false, false, false, false] rfl (by kernel_rfl) rfl (fun _ h => (HeapOk.settriv h (i := 0) rfl)) rfl rfl rfl (PureOp.fieldAddr 1 Try.underlying93 rfl rfl sz9 rfl) ?_
    refine SD.take 12 [true, true, true, true, true, true, true, true, true, true, true, true, true, false, false, false, false, false] rfl (by kernel_rfl) rfl (fun _ h => (HeapOk.settriv h (i := 0) rfl)) rfl rfl rfl (PureOp.load (v := .string ((nth K k).2)) Try.underlying9 rfl rfl (fun _ => (CellIs.ownc 1 rfl k 1 (by exact cellsOf_get encNF_len _ _ _ (by omega) (by decide))))) ?_
    refine SD.take 13 [true, true, true, true, true, true, true, true, true, true, true, true, true, true, false, false, false, false] rfl (by kernel_rfl) rfl (fun _ h => (HeapOk.settriv h (i := 0) rfl)) rfl rfl rfl (PureOp.adds rfl rfl (fun _ => by first | omega | (have q1 : (⟨#[32]⟩ : ByteArray).size = 1 := rfl; omega) | (have q1 : (⟨#[32]⟩ : ByteArray).size = 1 := rfl; have q2 := hK.sz _ (nth_mem (l := K) (i := k) (by omega)); rw [ByteArray.size_append]; omega))) ?_
    refine SD.take 14 [true, true, true, true, true, true, true, true, true, true, true, true, true, true, true, false, false, false] rfl (by kernel_rfl) rfl (fun _ h => (HeapOk.settriv h (i := 0) rfl)) rfl rfl rfl (PureOp.build bld93 rfl rfl) ?_
    refine SD.one 15 [true, true, true, true, true, true, true, true, true, true, true, true, true, true, true, true, false, false] (by kernel_rfl) rfl rfl ?_
    refine SL.buildSlice rfl rfl Try.underlying63 elem93 rfl rfl rfl rfl (fun b1 hb1 => ?_)
    refine SL.norm [_, _, _, _] rfl ?_
    refine SD.back (fun _ h => (HeapOk.settriv (HeapOk.take h 3) (i := 0) rfl)) ?_
    refine SD.one 16 [true, true, true, true, true, true, true, true, true, true, true, true, true, true, true, true, true, false] (by kernel_rfl) rfl rfl ?_
    refine SL.append 0 rfl rfl Try.underlying63 elem93 rfl rfl rfl rfl (SrcIs.own 3 rfl) (by rfl) (by first | omega | (have q1 : (⟨#[32]⟩ : ByteArray).size = 1 := rfl; omega) | (have q1 : (⟨#[32]⟩ : ByteArray).size = 1 := rfl; have q2 := hK.sz _ (nth_mem (l := K) (i := k) (by omega)); rw [ByteArray.size_append]; omega)) (by first | omega | (have q1 : (⟨#[32]⟩ : ByteArray).size = 1 := rfl; omega) | (have q1 : (⟨#[32]⟩ : ByteArray).size = 1 := rfl; have q2 := hK.sz _ (nth_mem (l := K) (i := k) (by omega)); rw [ByteArray.size_append]; omega)) (fun ao1_ cap1_ => ?_)
    refine SL.itemxs 0 rfl (show _ = cellsOf encNF (M ++ [((((nth K k).1) : Int), (((s ++ (⟨#[32]⟩)) ++ ((nth K k).2)) : ByteArray))]) from by rw [cellsOf_append (l := M), cellsOf_one]; rfl) ?_
    refine SL.norm [_, _, _, _] rfl ?_
    refine SD.back (fun _ h => (HeapOk.settriv (HeapOk.take h 3) (i := 0) rfl)) ?_
    refine SD.take 17 [true, true, true, true, true, true, true, true, true, true, true, true, true, true, true, true, true, true] rfl (by kernel_rfl) rfl (fun _ h => (HeapOk.settriv (HeapOk.take h 3) (i := 0) rfl)) rfl rfl rfl (PureOp.assign rfl) ?_
    refine SD.done (by kernel_rfl) ?_
    refine QX.ofK ?_
    refine QX.normal_in ?_
    refine QX.then_ ?_
    refine WC.region ?_
    refine SL.pure rfl rfl rfl (PureOp.move rfl) ?_
    refine SL.pure rfl rfl rfl (PureOp.addN (k := 1) rfl rfl (fun _ => by first | omega | (have q1 : (⟨#[32]⟩ : ByteArray).size = 1 := rfl; omega) | (have q1 : (⟨#[32]⟩ : ByteArray).size = 1 := rfl; have q2 := hK.sz _ (nth_mem (l := K) (i := k) (by omega)); rw [ByteArray.size_append]; omega))) ?_
    refine SL.pure rfl rfl rfl (PureOp.assign rfl) ?_
    refine SL.nil ?_
    refine QX.round (σ := Nat × Option Addr × Nat × Nat × List NF) (Ef := fun q_ => [(1, 0, .string s), (2, 0, .slice la ln lc), (6, 0, .slice none 0 0), (7, 0, .int .i64 ((q_.1 : Nat) : Int)), (0, 0, .slice q_.2.1 q_.2.2.2.1 q_.2.2.1)]) (Hf := fun q_ => [Item.own w0.heap.size q_.2.1 q_.2.2.2.1 q_.2.2.1 93 2 (cellsOf encNF (q_.2.2.2.2)), Item.own w0.heap.size la ln lc 93 2 (cellsOf encNF K), X]) (I := fun q_ => q_.1 ≤ ln ∧ q_.2.2.2.1 = on + q_.1 ∧ LnB q_.2.2.2.2 q_.2.2.2.1 (B + q_.1)) (μ := fun q_ => ln - q_.1) (s := (k, a, c, n_, M)) 3 ((k + 1, ao1_, cap1_, n_ + 1, M ++ [((((nth K k).1) : Int), (((s ++ (⟨#[32]⟩)) ++ ((nth K k).2)) : ByteArray))])) ⟨⟨(by first | omega | (dsimp only; omega)), (by first | omega | (dsimp only; omega)), (by exact hM.snoc)⟩, by first | omega | (dsimp only; omega)⟩ ⟨rfl, rfl, rfl, rfl, rfl, rfl, rfl, rfl, rfl, rfl, trivial⟩ rfl
  · try simp only [Bool.and_eq_true, Bool.or_eq_true, Bool.not_eq_true', Bool.not_eq_false', Bool.and_eq_false_iff, Bool.or_eq_false_iff, decide_eq_true_eq, decide_eq_false_iff_not, Int.not_lt, Int.not_le, ne_eq, Decidable.not_not] at h1
    refine WC.exit ?_
    refine QX.exit_then ?_
    refine QX.exit_then ?_
    refine QX.exit_hit ?_
    refine QX.then_ ?_
    refine WC.seq ?_
    refine WC.region ?_
    refine SL.pure rfl rfl rfl (PureOp.move rfl) ?_
    refine SL.pure rfl rfl rfl (PureOp.assign rfl) ?_
    refine SL.nil_then ?_
    refine WC.ret ?_
    refine QX.body1 rfl rfl ?_
    intro w hw
    have e_ : n_ = on + ln := by omega
    subst e_
    refine ⟨(a, c, M), rfl, hM.mono (by omega), ?_⟩
    exact HeapOk.pick [0, 1, 2] (by decide) hw

end Go.Proofs.Ytblmafknmeicfaa
