import Derived.Test.YtngkbnaehkailaaRFacts
import Derived.Test.YtngkbnaehkailaaSvP
namespace Go.Proofs.Ytngkbnaehkailaa
open Go Eng
theorem sz85 : (Try.prog.info? 85).map (·.size) = some 4 := by kernel_rfl
theorem zero85 : (Try.prog.info? 85).map (·.zero) = some (some (.agg #[.int .i64 0, .int .i64 0, .int .i64 0, .int .i64 0])) := by kernel_rfl
theorem bld85 : builder Try.prog 85 = some ([.int .i64 0, .int .i64 0, .int .i64 0, .int .i64 0], [(0, 1), (1, 1), (2, 1), (3, 1)]) := by kernel_rfl
theorem elem85 : elemI Try.prog 85 = some (4, [.int .i64 0, .int .i64 0, .int .i64 0, .int .i64 0], 32) := by kernel_rfl
theorem callable33 : callable Try.prog 33 = true := by kernel_rfl
theorem callable35 : callable Try.prog 35 = true := by kernel_rfl
theorem callable36 : callable Try.prog 36 = true := by kernel_rfl
theorem callable52 : callable Try.prog 52 = true := by kernel_rfl
theorem callable53 : callable Try.prog 53 = true := by kernel_rfl
theorem callable56 : callable Try.prog 56 = true := by kernel_rfl
end Go.Proofs.Ytngkbnaehkailaa

namespace Go.Proofs.Ytngkbnaehkailaa
open Go Go.RowKit Eng
set_option linter.unusedVariables false
set_option linter.unusedSimpArgs false

namespace Eng
section
variable {P : Program} {N : Nat} {w0 : World} {E : Env} {Γ : Gds} {H : Heap}
theorem QX.bodyn {fn : Func} {R : Ending → World → Prop} (hr : fn.results = #[]) (h : ∀ w, HeapOk w0 H w → R (.returned (.tuple #[])) w) : QX N w0 (bodyPost P fn R) .normal E Γ H := by
  intro a w he hw
  refine ⟨he.defers, .tuple #[], ?_, h w hw⟩
  unfold results
  rw [hr]
  simp only [Array.mapM_empty]
  rfl
end
end Eng
set_option maxHeartbeats 4000000 in
set_option maxRecDepth 100000 in
theorem rleft52_ok (w0 : World) (l : List Pa) (la : Option Addr) (m lc : Nat) (hm : m = l.length) (hI : ∀ i, i < m → SliceIn w0 2 (nth l i).2.2.ao (nth l i).2.2.l.length (nth l i).2.2.cap (rowsF enc77 (nth l i).2.2.l)) (sL : SliceIn w0 3 la m lc (rowsF enc55 l)) (P : List (SliceV Int)) (pa : Option Addr) (u pc : Nat) (hu : u = P.length) (hJ : ∀ i, i < u → SliceIn w0 1 (nth P i).ao (nth P i).l.length (nth P i).cap (rowsF encI (nth P i).l)) (sP : SliceIn w0 1 pa u pc (rowsF encSl P)) (hN : NumOk l P) (hm60 : m ≤ 60) (hcnt : ∀ i, i < m → 1 ≤ (nth l i).1 ∧ (nth l i).1 ≤ 99) (hwl : ∀ i, i < m → (nth l i).2.2.l.length ≤ 1024) : FnC Try.prog 36 [.slice la m lc, .slice pa u pc] w0 fun v w' => ∃ a cp, v = .slice a m cp ∧ w'.ownsRow w0.heap.size 3 1 (.slice a m cp) m (cellsOf encI (lfL l P m)) := by
  have hum : u = m := by rw [hu, hm]; exact hN.len
  refine fnc (N := 43) Try.func36 rfl rfl rfl ?_
  refine WC.seq ?_
  refine WC.region ?_
  refine SL.pure rfl rfl rfl (PureOp.assign rfl) ?_
  refine SL.nil_then ?_
  refine WC.seq ?_
  refine WC.region ?_
  refine SL.addnil 3 1 ?_
  refine SL.pure rfl rfl rfl (PureOp.assign rfl) ?_
  refine SL.nil_then ?_
  refine WC.seq ?_
  refine WC.seq ?_
  refine WC.region ?_
  refine SL.pure rfl rfl rfl (PureOp.assign rfl) ?_
  refine SL.nil_then ?_
  refine WC.block ?_
  refine WC.loop (σ := Nat × Option Addr × Nat) (fun q_ => [(0, 0, .slice la m lc), (1, 0, .slice pa u pc), (4, 0, .slice none 0 0), (6, 0, .int .i64 ((q_.1 : Nat) : Int)), (5, 0, .slice q_.2.1 q_.1 q_.2.2)]) (fun q_ => [Item.own w0.heap.size q_.2.1 q_.1 q_.2.2 3 1 (cellsOf encI (lfL l P q_.1))]) (fun q_ => q_.1 ≤ m) (fun q_ => m - q_.1) 1 ((0, none, 0)) (Nat.zero_le _) ⟨rfl, rfl, rfl, rfl, rfl, rfl, rfl, rfl, rfl, rfl, trivial⟩ rfl ?_
  rintro ⟨i, ae, ce⟩ hi
  try dsimp only at *
  refine WC.seq ?_
  refine WC.seq ?_
  refine WC.region ?_
  refine SL.pure rfl rfl rfl (PureOp.move rfl) ?_
  refine SL.pure rfl rfl rfl (PureOp.move rfl) ?_
  refine SL.pure rfl rfl rfl (PureOp.len rfl Try.underlying43) ?_
  refine SL.pure rfl rfl rfl (PureOp.lss rfl rfl) ?_
  refine SL.nil_then ?_
  refine WC.cond rfl (fun h1 => ?_) (fun h1 => ?_)
  · try simp only [Bool.and_eq_true, Bool.or_eq_true, Bool.not_eq_true', Bool.not_eq_false', Bool.and_eq_false_iff, Bool.or_eq_false_iff, decide_eq_true_eq, decide_eq_false_iff_not, Int.not_lt, Int.not_le, ne_eq, Decidable.not_not] at h1
    have hri := hN.row i (by omega)
    have hci := hcnt i (by omega)
    have hwi := hwl i (by omega)
    refine WC.skip ?_
    refine QX.then_ ?_
    refine WC.seq ?_
    refine WC.block ?_
    refine WC.seq ?_
    refine WC.region ?_
    refine SL.pure rfl rfl rfl (PureOp.move rfl) ?_
    refine SL.pure rfl rfl rfl (PureOp.move rfl) ?_
    refine SL.pure rfl rfl rfl (PureOp.indexAddrN Try.underlying43 sz55 rfl rfl (AoOk.in_ sL) (fun _ => by omega)) ?_
    refine SL.pure rfl rfl rfl (PureOp.fieldAddr 0 Try.underlying55 rfl rfl sz3 rfl) ?_
    refine SL.pure rfl rfl rfl (PureOp.load (v := .int .i64 ((nth l i).1)) Try.underlying3 rfl rfl (fun _ => (CellIs.in_ sL i 0 (by omega) (by omega)))) ?_
    refine SL.pure rfl rfl rfl (PureOp.assign rfl) ?_
    refine SL.nil_then ?_
    refine WC.seq ?_
    refine WC.seq ?_
    refine WC.region ?_
    refine SL.pure rfl rfl rfl (PureOp.assign rfl) ?_
    refine SL.nil_then ?_
    refine WC.block ?_
    refine WC.loop (σ := Nat) (fun q_ => [(0, 0, .slice la m lc), (1, 0, .slice pa u pc), (4, 0, .slice none 0 0), (5, 0, .slice ae i ce), (6, 0, .int .i64 ((i : Nat) : Int)), (9, 0, .int .i64 ((i : Nat) : Int)), (10, 0, .slice la m lc), (11, 0, .int .i64 ((m : Nat) : Int)), (12, 0, .bool (decide (((i : Nat) : Int) < ((m : Nat) : Int)))), (15, 0, .slice la m lc), (16, 0, .int .i64 ((i : Nat) : Int)), (17, 0, .pointer (some ⟨blk la, off la + i * 3, none⟩)), (18, 0, .pointer (some ⟨blk la, off la + i * 3, none⟩)), (19, 0, .int .i64 ((nth l i).1)), (8, 0, .int .i64 ((q_ : Nat) : Int)), (7, 0, .int .i64 (lfN (nth l i).1 (nth P i).l q_))]) (fun q_ => [Item.own w0.heap.size ae i ce 3 1 (cellsOf encI (lfL l P i))]) (fun q_ => q_ ≤ (nth P i).l.length) (fun q_ => (nth P i).l.length - q_) 1 (0) (Nat.zero_le _) ⟨rfl, rfl, rfl, rfl, rfl, rfl, rfl, rfl, rfl, rfl, rfl, rfl, rfl, rfl, rfl, rfl, rfl, rfl, rfl, rfl, rfl, rfl, rfl, rfl, rfl, rfl, rfl, rfl, rfl, rfl, rfl, rfl, trivial⟩ rfl ?_
    rintro j hj
    refine WC.seq ?_
    refine WC.seq ?_
    refine WC.region ?_
    refine SL.pure rfl rfl rfl (PureOp.move rfl) ?_
    refine SL.pure rfl rfl rfl (PureOp.move rfl) ?_
    refine SL.pure rfl rfl rfl (PureOp.move rfl) ?_
    refine SL.pure rfl rfl rfl (PureOp.indexAddrN Try.underlying44 sz29 rfl rfl (AoOk.in_ sP) (fun _ => by omega)) ?_
    refine SL.pure rfl rfl rfl (PureOp.load (v := .slice ((nth P i).ao) ((nth P i).l.length) ((nth P i).cap)) Try.underlying29 rfl rfl (fun _ => (CellIs.in_ sP i 0 (by omega) (by omega)))) ?_
    refine SL.pure rfl rfl rfl (PureOp.len rfl Try.underlying29) ?_
    refine SL.pure rfl rfl rfl (PureOp.lss rfl rfl) ?_
    refine SL.nil_then ?_
    refine WC.cond rfl (fun h2 => ?_) (fun h2 => ?_)
    · try simp only [Bool.and_eq_true, Bool.or_eq_true, Bool.not_eq_true', Bool.not_eq_false', Bool.and_eq_false_iff, Bool.or_eq_false_iff, decide_eq_true_eq, decide_eq_false_iff_not, Int.not_lt, Int.not_le, ne_eq, Decidable.not_not] at h2
      have hrj := hN.rs (x := (nth l i).1) (n := j) (i := i) (by omega) (by omega)
      have hpj := hN.num i (by omega) j (by omega)
      refine WC.skip ?_
      refine QX.then_ ?_
      refine WC.seq ?_
      refine WC.block ?_
      refine WC.region ?_
      refine SL.pure rfl rfl rfl (PureOp.move rfl) ?_
      refine SL.pure rfl rfl rfl (PureOp.move rfl) ?_
      refine SL.pure rfl rfl rfl (PureOp.move rfl) ?_
      refine SL.pure rfl rfl rfl (PureOp.indexAddrN Try.underlying44 sz29 rfl rfl (AoOk.in_ sP) (fun _ => by omega)) ?_
      refine SL.pure rfl rfl rfl (PureOp.load (v := .slice ((nth P i).ao) ((nth P i).l.length) ((nth P i).cap)) Try.underlying29 rfl rfl (fun _ => (CellIs.in_ sP i 0 (by omega) (by omega)))) ?_
      refine SL.pure rfl rfl rfl (PureOp.move rfl) ?_
      refine SL.pure rfl rfl rfl (PureOp.indexAddrN Try.underlying29 sz3 rfl rfl (AoOk.any (fun w hw => (hJ i (by omega)).below hw.below)) (fun _ => by omega)) ?_
      refine SL.pure rfl rfl rfl (PureOp.load (v := .int .i64 (nth ((nth P i).l) j)) Try.underlying3 rfl rfl (fun _ => (CellIs.any (fun w hw => (hJ i (by omega)).below hw.below) j 0 (by omega) (by omega)))) ?_
      refine SL.pure rfl rfl rfl (PureOp.sub rfl rfl (fun _ => by omega)) ?_
      refine SL.pure rfl rfl rfl (PureOp.assign rfl) ?_
      refine SL.nil ?_
      refine QX.normal_in ?_
      refine QX.then_ ?_
      refine WC.region ?_
      refine SL.pure rfl rfl rfl (PureOp.move rfl) ?_
      refine SL.pure rfl rfl rfl (PureOp.addN (k := 1) rfl rfl (fun _ => by omega)) ?_
      refine SL.pure rfl rfl rfl (PureOp.assign rfl) ?_
      refine SL.nil ?_
      refine QX.round 1 (j + 1) ⟨(by first | omega | (dsimp only; omega)), by first | omega | (dsimp only; omega)⟩ ⟨rfl, rfl, rfl, rfl, rfl, rfl, rfl, rfl, rfl, rfl, rfl, rfl, rfl, rfl, rfl, rfl, rfl, rfl, rfl, rfl, rfl, rfl, rfl, rfl, rfl, rfl, rfl, rfl, rfl, rfl, rfl, rfl, trivial⟩ rfl
    · try simp only [Bool.and_eq_true, Bool.or_eq_true, Bool.not_eq_true', Bool.not_eq_false', Bool.and_eq_false_iff, Bool.or_eq_false_iff, decide_eq_true_eq, decide_eq_false_iff_not, Int.not_lt, Int.not_le, ne_eq, Decidable.not_not] at h2
      have e_ : j = (nth P i).l.length := by omega
      subst e_
      refine WC.exit ?_
      refine QX.exit_then ?_
      refine QX.exit_then ?_
      refine QX.exit_hit ?_
      refine QX.then_ ?_
      refine WC.region ?_
      refine SL.pure rfl rfl rfl (PureOp.move rfl) ?_
      refine SL.pure rfl rfl rfl (PureOp.move rfl) ?_
      refine SL.buildSlice rfl rfl Try.underlying29 elem3 rfl rfl rfl rfl (fun b1 hb1 => ?_)
      refine SL.norm [_, _] rfl ?_
      refine SL.append 0 rfl rfl Try.underlying29 elem3 rfl rfl rfl rfl (SrcIs.own 1 rfl) (by rfl) (by omega) (by omega) (fun ao1_ cap1_ => ?_)
      refine SL.itemxs 0 rfl (show _ = cellsOf encI (lfL l P i ++ [lfN (nth l i).1 (nth P i).l (nth P i).l.length]) from by rw [cellsOf_append (l := (lfL l P i)), cellsOf_one]; rfl) ?_
      refine SL.norm [_, _] rfl ?_
      refine SL.pure rfl rfl rfl (PureOp.assign rfl) ?_
      refine SL.nil ?_
      refine QX.normal_in ?_
      refine QX.then_ ?_
      refine WC.region ?_
      refine SL.pure rfl rfl rfl (PureOp.move rfl) ?_
      refine SL.pure rfl rfl rfl (PureOp.addN (k := 1) rfl rfl (fun _ => by omega)) ?_
      refine SL.pure rfl rfl rfl (PureOp.assign rfl) ?_
      refine SL.nil ?_
      refine QX.round (σ := Nat × Option Addr × Nat) (Ef := fun q_ => [(0, 0, .slice la m lc), (1, 0, .slice pa u pc), (4, 0, .slice none 0 0), (6, 0, .int .i64 ((q_.1 : Nat) : Int)), (5, 0, .slice q_.2.1 q_.1 q_.2.2)]) (Hf := fun q_ => [Item.own w0.heap.size q_.2.1 q_.1 q_.2.2 3 1 (cellsOf encI (lfL l P q_.1))]) (I := fun q_ => q_.1 ≤ m) (μ := fun q_ => m - q_.1) (s := (i, ae, ce)) 1 ((i + 1, ao1_, cap1_)) ⟨(by first | omega | (dsimp only; omega)), by first | omega | (dsimp only; omega)⟩ ⟨rfl, rfl, rfl, rfl, rfl, rfl, rfl, rfl, rfl, rfl, trivial⟩ rfl
  · try simp only [Bool.and_eq_true, Bool.or_eq_true, Bool.not_eq_true', Bool.not_eq_false', Bool.and_eq_false_iff, Bool.or_eq_false_iff, decide_eq_true_eq, decide_eq_false_iff_not, Int.not_lt, Int.not_le, ne_eq, Decidable.not_not] at h1
    have e_ : i = m := by omega
    subst i
    refine WC.exit ?_
    refine QX.exit_then ?_
    refine QX.exit_then ?_
    refine QX.exit_hit ?_
    refine QX.then_ ?_
    refine WC.seq ?_
    refine WC.region ?_
    refine SL.pure rfl rfl rfl (PureOp.move rfl) ?_
    refine SL.pure rfl rfl rfl (PureOp.assign rfl) ?_
    refine SL.nil_then ?_
    refine WC.ret ?_
    refine QX.ret1 rfl rfl ?_
    intro w hw
    exact ⟨ae, ce, rfl, hw.mem (i := 0) rfl⟩

set_option maxHeartbeats 4000000 in
set_option maxRecDepth 100000 in
theorem pleft52_ok (w0 : World) (l : List Pa) (la : Option Addr) (m lc : Nat) (hm : m = l.length) (hI : ∀ i, i < m → SliceIn w0 2 (nth l i).2.2.ao (nth l i).2.2.l.length (nth l i).2.2.cap (rowsF enc77 (nth l i).2.2.l)) (sL : SliceIn w0 3 la m lc (rowsF enc55 l)) (P : List (SliceV Int)) (pa : Option Addr) (u pc : Nat) (hu : u = P.length) (hJ : ∀ i, i < u → SliceIn w0 1 (nth P i).ao (nth P i).l.length (nth P i).cap (rowsF encI (nth P i).l)) (sP : SliceIn w0 1 pa u pc (rowsF encSl P)) (hN : NumOk l P) (hm60 : m ≤ 60) (hcnt : ∀ i, i < m → 1 ≤ (nth l i).1 ∧ (nth l i).1 ≤ 99) (hwl : ∀ i, i < m → (nth l i).2.2.l.length ≤ 1024) : FnC Try.prog 35 [.slice la m lc, .slice pa u pc] w0 fun v w' => ∃ a cp, v = .slice a m cp ∧ w'.ownsRow w0.heap.size 3 1 (.slice a m cp) m (cellsOf encI (lfL l P m)) := by
  have hum : u = m := by rw [hu, hm]; exact hN.len
  refine fnc (N := 46) Try.func35 rfl rfl rfl ?_
  refine WC.seq ?_
  refine WC.region ?_
  refine SL.pure rfl rfl rfl (PureOp.assign rfl) ?_
  refine SL.nil_then ?_
  refine WC.seq ?_
  refine WC.region ?_
  refine SL.pure rfl rfl rfl (PureOp.move rfl) ?_
  refine SL.pure rfl rfl rfl (PureOp.len rfl Try.underlying43) ?_
  refine SL.make0 (n := m) rfl rfl Try.underlying29 elem3 rfl rfl (by omega) (by omega) (fun b1 hb1 => ?_)
  refine SL.pure rfl rfl rfl (PureOp.assign rfl) ?_
  refine SL.nil_then ?_
  refine WC.seq ?_
  refine WC.seq ?_
  refine WC.region ?_
  refine SL.pure rfl rfl rfl (PureOp.move rfl) ?_
  refine SL.pure rfl rfl rfl (PureOp.len rfl Try.underlying43) ?_
  refine SL.pure rfl rfl rfl (PureOp.move rfl) ?_
  refine SL.nil_then ?_
  refine WC.block ?_
  refine WC.loop (σ := Nat × Option Addr × Nat) (fun q_ => [(0, 0, .slice la m lc), (1, 0, .slice pa u pc), (4, 0, .slice none 0 0), (11, 0, .slice la m lc), (12, 0, .int .i64 ((m : Nat) : Int)), (13, 0, .slice (some ⟨b1, 0, none⟩) 0 m), (14, 0, .slice la m lc), (15, 0, .int .i64 ((m : Nat) : Int)), (16, 0, .int .i64 ((q_.1 : Nat) : Int)), (5, 0, .slice q_.2.1 q_.1 q_.2.2)]) (fun q_ => [Item.own w0.heap.size q_.2.1 q_.1 q_.2.2 3 1 (cellsOf encI (lfL l P q_.1))]) (fun q_ => q_.1 ≤ m) (fun q_ => m - q_.1) 1 ((0, some ⟨b1, 0, none⟩, m)) (Nat.zero_le _) ⟨rfl, rfl, rfl, rfl, rfl, rfl, rfl, rfl, rfl, rfl, rfl, rfl, rfl, rfl, rfl, rfl, rfl, rfl, rfl, rfl, trivial⟩ rfl ?_
  rintro ⟨i, ae, ce⟩ hi
  try dsimp only at *
  refine WC.seq ?_
  refine WC.region ?_
  refine SL.pure rfl rfl rfl (PureOp.lss rfl rfl) ?_
  refine SL.nil_then ?_
  refine WC.seq ?_
  refine WC.cond rfl (fun h1 => ?_) (fun h1 => ?_)
  · try simp only [Bool.and_eq_true, Bool.or_eq_true, Bool.not_eq_true', Bool.not_eq_false', Bool.and_eq_false_iff, Bool.or_eq_false_iff, decide_eq_true_eq, decide_eq_false_iff_not, Int.not_lt, Int.not_le, ne_eq, Decidable.not_not] at h1
    have hri := hN.row i (by omega)
    have hci := hcnt i (by omega)
    have hwi := hwl i (by omega)
    refine WC.skip ?_
    refine QX.then_ ?_
    refine WC.seq ?_
    refine WC.block ?_
    refine WC.seq ?_
    refine WC.region ?_
    refine SL.pure rfl rfl rfl (PureOp.move rfl) ?_
    refine SL.pure rfl rfl rfl (PureOp.indexAddrN Try.underlying43 sz55 rfl rfl (AoOk.in_ sL) (fun _ => by omega)) ?_
    refine SL.pure rfl rfl rfl (PureOp.loads (vs := [.int .i64 ((nth l i).1), .int .i64 ((nth l i).2.1), .slice ((nth l i).2.2.ao) ((nth l i).2.2.l.length) ((nth l i).2.2.cap)]) Try.underlying55 rfl rfl (fun _ => (RowIs.in_ sL i 0 3 (by omega) (by omega))) sz55) ?_
    refine SL.alloc rfl rfl zero55 (fun b2 hb2 => ?_)
    refine SL.norm [_, _] rfl ?_
    refine SL.pure rfl rfl rfl (PureOp.assign rfl) ?_
    refine SL.store 1 rfl rfl rfl rfl sz55 rfl rfl ?_
    refine SL.norm [_, _] rfl ?_
    refine SL.nil_then ?_
    refine WC.seq ?_
    refine WC.region ?_
    refine SL.pure rfl rfl rfl (PureOp.fieldAddrT 0 Try.underlying55 rfl sz3 rfl rfl) ?_
    refine SL.pure rfl rfl rfl (PureOp.load (v := .int .i64 ((nth l i).1)) Try.underlying3 rfl rfl (fun _ => (CellIs.cells 1 rfl rfl))) ?_
    refine SL.pure rfl rfl rfl (PureOp.assign rfl) ?_
    refine SL.nil_then ?_
    refine WC.seq ?_
    refine WC.seq ?_
    refine WC.region ?_
    refine SL.pure rfl rfl rfl (PureOp.move rfl) ?_
    refine SL.pure rfl rfl rfl (PureOp.move rfl) ?_
    refine SL.pure rfl rfl rfl (PureOp.len rfl Try.underlying44) ?_
    refine SL.pure rfl rfl rfl (PureOp.lss rfl rfl) ?_
    refine SL.nil_then ?_
    refine WC.cond rfl (fun h2 => ?_) (fun h2 => ?_)
    · try simp only [Bool.and_eq_true, Bool.or_eq_true, Bool.not_eq_true', Bool.not_eq_false', Bool.and_eq_false_iff, Bool.or_eq_false_iff, decide_eq_true_eq, decide_eq_false_iff_not, Int.not_lt, Int.not_le, ne_eq, Decidable.not_not] at h2
      refine WC.seq ?_
      refine WC.region ?_
      refine SL.pure rfl rfl rfl (PureOp.move rfl) ?_
      refine SL.pure rfl rfl rfl (PureOp.move rfl) ?_
      refine SL.pure rfl rfl rfl (PureOp.indexAddrN Try.underlying44 sz29 rfl rfl (AoOk.in_ sP) (fun _ => by omega)) ?_
      refine SL.pure rfl rfl rfl (PureOp.load (v := .slice ((nth P i).ao) ((nth P i).l.length) ((nth P i).cap)) Try.underlying29 rfl rfl (fun _ => (CellIs.in_ sP i 0 (by omega) (by omega)))) ?_
      refine SL.pure rfl rfl rfl (PureOp.len rfl Try.underlying29) ?_
      refine SL.pure rfl rfl rfl (PureOp.move rfl) ?_
      refine SL.nil_then ?_
      refine WC.block ?_
      refine WC.loop (σ := Nat) (fun q_ => [(0, 0, .slice la m lc), (1, 0, .slice pa u pc), (4, 0, .slice none 0 0), (5, 0, .slice ae i ce), (6, 0, .int .i64 ((i : Nat) : Int)), (7, 0, .pointer (some ⟨b2, 0, none⟩)), (11, 0, .slice la m lc), (12, 0, .int .i64 ((m : Nat) : Int)), (13, 0, .slice (some ⟨b1, 0, none⟩) 0 m), (14, 0, .slice la m lc), (15, 0, .int .i64 ((m : Nat) : Int)), (16, 0, .int .i64 ((i : Nat) : Int)), (17, 0, .bool (decide (((i : Nat) : Int) < ((m : Nat) : Int)))), (18, 0, .int .i64 ((i : Nat) : Int)), (19, 0, .pointer (some ⟨blk la, off la + i * 3, none⟩)), (20, 0, .agg #[.int .i64 ((nth l i).1), .int .i64 ((nth l i).2.1), .slice ((nth l i).2.2.ao) ((nth l i).2.2.l.length) ((nth l i).2.2.cap)]), (21, 0, .pointer (some ⟨b2, 0, none⟩)), (22, 0, .int .i64 ((nth l i).1)), (23, 0, .int .i64 ((i : Nat) : Int)), (24, 0, .slice pa u pc), (25, 0, .int .i64 ((u : Nat) : Int)), (26, 0, .bool (decide (((i : Nat) : Int) < ((u : Nat) : Int)))), (27, 0, .slice pa u pc), (28, 0, .int .i64 ((i : Nat) : Int)), (29, 0, .pointer (some ⟨blk pa, off pa + i * 1, none⟩)), (30, 0, .slice ((nth P i).ao) ((nth P i).l.length) ((nth P i).cap)), (31, 0, .int .i64 (((nth P i).l.length : Nat) : Int)), (32, 0, .int .i64 ((q_ : Nat) : Int)), (8, 0, .int .i64 (lfN (nth l i).1 (nth P i).l q_))]) (fun q_ => [Item.own w0.heap.size ae i ce 3 1 (cellsOf encI (lfL l P i)), Item.cells b2 [.int .i64 ((nth l i).1), .int .i64 ((nth l i).2.1), .slice ((nth l i).2.2.ao) ((nth l i).2.2.l.length) ((nth l i).2.2.cap)] 55]) (fun q_ => q_ ≤ (nth P i).l.length) (fun q_ => (nth P i).l.length - q_) 2 (0) (Nat.zero_le _) ⟨rfl, rfl, rfl, rfl, rfl, rfl, rfl, rfl, rfl, rfl, rfl, rfl, rfl, rfl, rfl, rfl, rfl, rfl, rfl, rfl, rfl, rfl, rfl, rfl, rfl, rfl, rfl, rfl, rfl, rfl, rfl, rfl, rfl, rfl, rfl, rfl, rfl, rfl, rfl, rfl, rfl, rfl, rfl, rfl, rfl, rfl, rfl, rfl, rfl, rfl, rfl, rfl, rfl, rfl, rfl, rfl, rfl, rfl, trivial⟩ rfl ?_
      rintro j hj
      refine WC.seq ?_
      refine WC.region ?_
      refine SL.pure rfl rfl rfl (PureOp.lss rfl rfl) ?_
      refine SL.nil_then ?_
      refine WC.seq ?_
      refine WC.cond rfl (fun h3 => ?_) (fun h3 => ?_)
      · try simp only [Bool.and_eq_true, Bool.or_eq_true, Bool.not_eq_true', Bool.not_eq_false', Bool.and_eq_false_iff, Bool.or_eq_false_iff, decide_eq_true_eq, decide_eq_false_iff_not, Int.not_lt, Int.not_le, ne_eq, Decidable.not_not] at h3
        have hrj := hN.rs (x := (nth l i).1) (n := j) (i := i) (by omega) (by omega)
        have hpj := hN.num i (by omega) j (by omega)
        refine WC.skip ?_
        refine QX.then_ ?_
        refine WC.seq ?_
        refine WC.block ?_
        refine WC.seq ?_
        refine WC.region ?_
        refine SL.pure rfl rfl rfl (PureOp.indexAddrN Try.underlying29 sz3 rfl rfl (AoOk.any (fun w hw => (hJ i (by omega)).below hw.below)) (fun _ => by omega)) ?_
        refine SL.pure rfl rfl rfl (PureOp.load (v := .int .i64 (nth ((nth P i).l) j)) Try.underlying3 rfl rfl (fun _ => (CellIs.any (fun w hw => (hJ i (by omega)).below hw.below) j 0 (by omega) (by omega)))) ?_
        refine SL.pure rfl rfl rfl (PureOp.assign rfl) ?_
        refine SL.nil_then ?_
        refine WC.region ?_
        refine SL.pure rfl rfl rfl (PureOp.move rfl) ?_
        refine SL.pure rfl rfl rfl (PureOp.move rfl) ?_
        refine SL.pure rfl rfl rfl (PureOp.sub rfl rfl (fun _ => by omega)) ?_
        refine SL.pure rfl rfl rfl (PureOp.assign rfl) ?_
        refine SL.nil ?_
        refine QX.normal_in ?_
        refine QX.then_ ?_
        refine WC.region ?_
        refine SL.pure rfl rfl rfl (PureOp.addN (k := 1) rfl rfl (fun _ => by omega)) ?_
        refine SL.pure rfl rfl rfl (PureOp.move rfl) ?_
        refine SL.nil ?_
        refine QX.round 2 (j + 1) ⟨(by first | omega | (dsimp only; omega)), by first | omega | (dsimp only; omega)⟩ ⟨rfl, rfl, rfl, rfl, rfl, rfl, rfl, rfl, rfl, rfl, rfl, rfl, rfl, rfl, rfl, rfl, rfl, rfl, rfl, rfl, rfl, rfl, rfl, rfl, rfl, rfl, rfl, rfl, rfl, rfl, rfl, rfl, rfl, rfl, rfl, rfl, rfl, rfl, rfl, rfl, rfl, rfl, rfl, rfl, rfl, rfl, rfl, rfl, rfl, rfl, rfl, rfl, rfl, rfl, rfl, rfl, rfl, rfl, trivial⟩ rfl
      · try simp only [Bool.and_eq_true, Bool.or_eq_true, Bool.not_eq_true', Bool.not_eq_false', Bool.and_eq_false_iff, Bool.or_eq_false_iff, decide_eq_true_eq, decide_eq_false_iff_not, Int.not_lt, Int.not_le, ne_eq, Decidable.not_not] at h3
        have e_ : j = (nth P i).l.length := by omega
        subst e_
        refine WC.exit ?_
        refine QX.exit_then ?_
        refine QX.exit_then ?_
        refine QX.exit_hit ?_
        refine QX.then_ ?_
        refine WC.region ?_
        refine SL.pure rfl rfl rfl (PureOp.move rfl) ?_
        refine SL.pure rfl rfl rfl (PureOp.move rfl) ?_
        refine SL.buildSlice rfl rfl Try.underlying29 elem3 rfl rfl rfl rfl (fun b3 hb3 => ?_)
        refine SL.norm [_, _, _] rfl ?_
        refine SL.append 0 rfl rfl Try.underlying29 elem3 rfl rfl rfl rfl (SrcIs.own 2 rfl) (by rfl) (by omega) (by omega) (fun ao1_ cap1_ => ?_)
        refine SL.itemxs 0 rfl (show _ = cellsOf encI (lfL l P i ++ [lfN (nth l i).1 (nth P i).l (nth P i).l.length]) from by rw [cellsOf_append (l := (lfL l P i)), cellsOf_one]; rfl) ?_
        refine SL.norm [_, _, _] rfl ?_
        refine SL.pure rfl rfl rfl (PureOp.assign rfl) ?_
        refine SL.nil ?_
        refine QX.normal_in ?_
        refine QX.then_ ?_
        refine WC.region ?_
        refine SL.pure rfl rfl rfl (PureOp.addN (k := 1) rfl rfl (fun _ => by omega)) ?_
        refine SL.pure rfl rfl rfl (PureOp.move rfl) ?_
        refine SL.nil ?_
        refine QX.round (σ := Nat × Option Addr × Nat) (Ef := fun q_ => [(0, 0, .slice la m lc), (1, 0, .slice pa u pc), (4, 0, .slice none 0 0), (11, 0, .slice la m lc), (12, 0, .int .i64 ((m : Nat) : Int)), (13, 0, .slice (some ⟨b1, 0, none⟩) 0 m), (14, 0, .slice la m lc), (15, 0, .int .i64 ((m : Nat) : Int)), (16, 0, .int .i64 ((q_.1 : Nat) : Int)), (5, 0, .slice q_.2.1 q_.1 q_.2.2)]) (Hf := fun q_ => [Item.own w0.heap.size q_.2.1 q_.1 q_.2.2 3 1 (cellsOf encI (lfL l P q_.1))]) (I := fun q_ => q_.1 ≤ m) (μ := fun q_ => m - q_.1) (s := (i, ae, ce)) 1 ((i + 1, ao1_, cap1_)) ⟨(by first | omega | (dsimp only; omega)), by first | omega | (dsimp only; omega)⟩ ⟨rfl, rfl, rfl, rfl, rfl, rfl, rfl, rfl, rfl, rfl, rfl, rfl, rfl, rfl, rfl, rfl, rfl, rfl, rfl, rfl, trivial⟩ rfl
    · try simp only [Bool.and_eq_true, Bool.or_eq_true, Bool.not_eq_true', Bool.not_eq_false', Bool.and_eq_false_iff, Bool.or_eq_false_iff, decide_eq_true_eq, decide_eq_false_iff_not, Int.not_lt, Int.not_le, ne_eq, Decidable.not_not] at h2
      exact (by omega : False).elim
  · try simp only [Bool.and_eq_true, Bool.or_eq_true, Bool.not_eq_true', Bool.not_eq_false', Bool.and_eq_false_iff, Bool.or_eq_false_iff, decide_eq_true_eq, decide_eq_false_iff_not, Int.not_lt, Int.not_le, ne_eq, Decidable.not_not] at h1
    have e_ : i = m := by omega
    subst i
    refine WC.exit ?_
    refine QX.exit_then ?_
    refine QX.exit_then ?_
    refine QX.exit_hit ?_
    refine QX.then_ ?_
    refine WC.seq ?_
    refine WC.region ?_
    refine SL.pure rfl rfl rfl (PureOp.move rfl) ?_
    refine SL.pure rfl rfl rfl (PureOp.assign rfl) ?_
    refine SL.nil_then ?_
    refine WC.ret ?_
    refine QX.ret1 rfl rfl ?_
    intro w hw
    exact ⟨ae, ce, rfl, hw.mem (i := 0) rfl⟩

end Go.Proofs.Ytngkbnaehkailaa

namespace Go.Proofs.Ytngkbnaehkailaa
open Go Go.RowKit Eng
set_option linter.unusedVariables false
set_option linter.unusedSimpArgs false

set_option maxHeartbeats 4000000 in
set_option maxRecDepth 100000 in
theorem rroom52_ok (w0 : World) (l : List Pa) (la : Option Addr) (m lc : Nat) (hm : m = l.length) (hI : ∀ i, i < m → SliceIn w0 2 (nth l i).2.2.ao (nth l i).2.2.l.length (nth l i).2.2.cap (rowsF enc77 (nth l i).2.2.l)) (sL : SliceIn w0 3 la m lc (rowsF enc55 l)) (c : List Int) (ca : Option Addr) (q cc : Nat) (hq : q = c.length) (sC : SliceIn w0 1 ca q cc (rowsF encI c)) (P : List (SliceV Int)) (pa : Option Addr) (u pc : Nat) (hu : u = P.length) (hJ : ∀ i, i < u → SliceIn w0 1 (nth P i).ao (nth P i).l.length (nth P i).cap (rowsF encI (nth P i).l)) (sP : SliceIn w0 1 pa u pc (rowsF encSl P)) (hok : PaOk l c) (hN : NumOk l P) (hS : wayS l m ≤ 1024) : FnC Try.prog 52 [.slice la m lc, .slice ca q cc, .slice pa u pc] w0 fun v w' => ∃ a cp, v = .slice a q cp ∧ w'.ownsRow w0.heap.size 3 1 (.slice a q cp) q (cellsOf encI (rmI l P c m)) := by
  have hum : u = m := by rw [hu, hm]; exact hN.len
  have hnl := hok.nl
  have hnc := hok.nc
  have hS2 : wayS l l.length ≤ 1024 := by rw [← hm]; exact hS
  refine fnc (N := 54) Try.func52 rfl rfl rfl ?_
  refine WC.seq ?_
  refine WC.region ?_
  refine SL.pure rfl rfl rfl (PureOp.assign rfl) ?_
  refine SL.nil_then ?_
  refine WC.seq ?_
  refine WC.region ?_
  refine SL.addnil 3 1 ?_
  refine SL.pure rfl rfl rfl (PureOp.assign rfl) ?_
  refine SL.nil_then ?_
  refine WC.seq ?_
  refine WC.region ?_
  refine SL.pure rfl rfl rfl (PureOp.move rfl) ?_
  refine SL.pure rfl rfl rfl (PureOp.move rfl) ?_
  refine SL.append 0 rfl rfl Try.underlying29 elem3 rfl rfl rfl rfl (SrcIs.in_ sC encI_len hq) (by exact all_one_cells (fun x => rfl) _) (by omega) (by omega) (fun ao1_ cap1_ => ?_)
  refine SL.itemxs 0 rfl (show _ = cellsOf encI c from List.nil_append _) ?_
  refine SL.norm [_] rfl ?_
  refine SL.pure rfl rfl rfl (PureOp.assign rfl) ?_
  refine SL.nil_then ?_
  refine WC.seq ?_
  refine WC.seq ?_
  refine WC.region ?_
  refine SL.pure rfl rfl rfl (PureOp.assign rfl) ?_
  refine SL.nil_then ?_
  refine WC.block ?_
  refine WC.loop (σ := Nat) (fun q_ => [(0, 0, .slice la m lc), (1, 0, .slice ca q cc), (2, 0, .slice pa u pc), (6, 0, .slice none 0 0), (7, 0, .slice ao1_ (0 + q) cap1_), (11, 0, .slice none 0 0), (12, 0, .slice ca q cc), (13, 0, .slice ao1_ (0 + q) cap1_), (8, 0, .int .i64 ((q_ : Nat) : Int))]) (fun q_ => [Item.own w0.heap.size ao1_ (0 + q) cap1_ 3 1 (cellsOf encI (rmI l P c q_))]) (fun q_ => q_ ≤ m) (fun q_ => m - q_) 1 (0) (Nat.zero_le _) ⟨rfl, rfl, rfl, rfl, rfl, rfl, rfl, rfl, rfl, rfl, rfl, rfl, rfl, rfl, rfl, rfl, rfl, rfl, trivial⟩ rfl ?_
  rintro i hi
  refine WC.seq ?_
  refine WC.seq ?_
  refine WC.region ?_
  refine SL.pure rfl rfl rfl (PureOp.move rfl) ?_
  refine SL.pure rfl rfl rfl (PureOp.move rfl) ?_
  refine SL.pure rfl rfl rfl (PureOp.len rfl Try.underlying43) ?_
  refine SL.pure rfl rfl rfl (PureOp.lss rfl rfl) ?_
  refine SL.nil_then ?_
  refine WC.cond rfl (fun h1 => ?_) (fun h1 => ?_)
  · try simp only [Bool.and_eq_true, Bool.or_eq_true, Bool.not_eq_true', Bool.not_eq_false', Bool.and_eq_false_iff, Bool.or_eq_false_iff, decide_eq_true_eq, decide_eq_false_iff_not, Int.not_lt, Int.not_le, ne_eq, Decidable.not_not] at h1
    have hri := hN.row i (by omega)
    have hwi := way_le hS2 (i := i) (by omega)
    refine WC.skip ?_
    refine QX.then_ ?_
    refine WC.seq ?_
    refine WC.block ?_
    refine WC.seq ?_
    refine WC.region ?_
    refine SL.pure rfl rfl rfl (PureOp.assign rfl) ?_
    refine SL.nil_then ?_
    refine WC.block ?_
    refine WC.loop (σ := Nat) (fun q_ => [(0, 0, .slice la m lc), (1, 0, .slice ca q cc), (2, 0, .slice pa u pc), (6, 0, .slice none 0 0), (7, 0, .slice ao1_ (0 + q) cap1_), (8, 0, .int .i64 ((i : Nat) : Int)), (11, 0, .slice none 0 0), (12, 0, .slice ca q cc), (13, 0, .slice ao1_ (0 + q) cap1_), (14, 0, .int .i64 ((i : Nat) : Int)), (15, 0, .slice la m lc), (16, 0, .int .i64 ((m : Nat) : Int)), (17, 0, .bool (decide (((i : Nat) : Int) < ((m : Nat) : Int)))), (9, 0, .int .i64 ((q_ : Nat) : Int))]) (fun q_ => [Item.own w0.heap.size ao1_ (0 + q) cap1_ 3 1 (cellsOf encI (rmK l P i (rmI l P c i) q_))]) (fun q_ => q_ ≤ (nth P i).l.length) (fun q_ => (nth P i).l.length - q_) 1 (0) (Nat.zero_le _) ⟨rfl, rfl, rfl, rfl, rfl, rfl, rfl, rfl, rfl, rfl, rfl, rfl, rfl, rfl, rfl, rfl, rfl, rfl, rfl, rfl, rfl, rfl, rfl, rfl, rfl, rfl, rfl, rfl, trivial⟩ rfl ?_
    rintro j hj
    refine WC.seq ?_
    refine WC.seq ?_
    refine WC.region ?_
    refine SL.pure rfl rfl rfl (PureOp.move rfl) ?_
    refine SL.pure rfl rfl rfl (PureOp.move rfl) ?_
    refine SL.pure rfl rfl rfl (PureOp.move rfl) ?_
    refine SL.pure rfl rfl rfl (PureOp.indexAddrN Try.underlying44 sz29 rfl rfl (AoOk.in_ sP) (fun _ => by omega)) ?_
    refine SL.pure rfl rfl rfl (PureOp.load (v := .slice ((nth P i).ao) ((nth P i).l.length) ((nth P i).cap)) Try.underlying29 rfl rfl (fun _ => (CellIs.in_ sP i 0 (by omega) (by omega)))) ?_
    refine SL.pure rfl rfl rfl (PureOp.len rfl Try.underlying29) ?_
    refine SL.pure rfl rfl rfl (PureOp.lss rfl rfl) ?_
    refine SL.nil_then ?_
    refine WC.cond rfl (fun h2 => ?_) (fun h2 => ?_)
    · try simp only [Bool.and_eq_true, Bool.or_eq_true, Bool.not_eq_true', Bool.not_eq_false', Bool.and_eq_false_iff, Bool.or_eq_false_iff, decide_eq_true_eq, decide_eq_false_iff_not, Int.not_lt, Int.not_le, ne_eq, Decidable.not_not] at h2
      have hat := hok.way i (by omega) j (by omega)
      have hrb := room_bd hok hN hS2 (i := i) (k := j) (v := (nth (nth l i).2.2.l j).1.toNat) (by omega) (by omega) (by omega)
      have hpj := hN.num i (by omega) j (by omega)
      refine WC.ownfacts 0 rfl (fun hcf hnn hxl => ?_)
      obtain ⟨g_, hg_⟩ : ∃ g, ao1_ = some ⟨g, 0, none⟩ := hnn.elim (fun h => by omega) id
      subst hg_
      refine WC.skip ?_
      refine QX.then_ ?_
      refine WC.seq ?_
      refine WC.block ?_
      refine WC.seq ?_
      refine WC.region ?_
      refine SL.pure rfl rfl rfl (PureOp.move rfl) ?_
      refine SL.pure rfl rfl rfl (PureOp.move rfl) ?_
      refine SL.pure rfl rfl rfl (PureOp.indexAddrN Try.underlying43 sz55 rfl rfl (AoOk.in_ sL) (fun _ => by omega)) ?_
      refine SL.pure rfl rfl rfl (PureOp.fieldAddr 2 Try.underlying55 rfl rfl sz53 rfl) ?_
      refine SL.pure rfl rfl rfl (PureOp.load (v := .slice ((nth l i).2.2.ao) ((nth l i).2.2.l.length) ((nth l i).2.2.cap)) Try.underlying53 rfl rfl (fun _ => (CellIs.in_ sL i 2 (by omega) (by omega)))) ?_
      refine SL.pure rfl rfl rfl (PureOp.move rfl) ?_
      refine SL.pure rfl rfl rfl (PureOp.indexAddrN Try.underlying53 sz77 rfl rfl (AoOk.any (fun w hw => (hI i (by omega)).below hw.below)) (fun _ => by omega)) ?_
      refine SL.pure rfl rfl rfl (PureOp.fieldAddr 0 Try.underlying77 rfl rfl sz3 rfl) ?_
      refine SL.pure rfl rfl rfl (PureOp.load (v := .int .i64 ((nth ((nth l i).2.2.l) j).1)) Try.underlying3 rfl rfl (fun _ => (CellIs.any (fun w hw => (hI i (by omega)).below hw.below) j 0 (by omega) (by omega)))) ?_
      refine SL.pure rfl rfl rfl (PureOp.assign rfl) ?_
      refine SL.nil_then ?_
      refine WC.drawh ([Item.triv]) 16 [false, false, false, false, false, false, false, false, false, false, false, false, false, false, false, false] rfl rfl rfl ?_
      refine SD.take 0 [true, false, false, false, false, false, false, false, false, false, false, false, false, false, false, false] rfl (by kernel_rfl) rfl (fun _ h => (HeapOk.settriv h (i := 0) rfl)) rfl rfl rfl (PureOp.move rfl) ?_
      refine SD.take 1 [true, true, false, false, false, false, false, false, false, false, false, false, false, false, false, false] rfl (by kernel_rfl) rfl (fun _ h => (HeapOk.settriv h (i := 0) rfl)) rfl rfl rfl (PureOp.move rfl) ?_
      refine SD.take 2 [true, true, true, false, false, false, false, false, false, false, false, false, false, false, false, false] rfl (by kernel_rfl) rfl (fun _ h => (HeapOk.settriv h (i := 0) rfl)) rfl rfl rfl (PureOp.move rfl) ?_
      refine SD.take 3 [true, true, true, true, false, false, false, false, false, false, false, false, false, false, false, false] rfl (by kernel_rfl) rfl (fun _ h => (HeapOk.settriv h (i := 0) rfl)) rfl rfl rfl (PureOp.move rfl) ?_
      refine SD.take 4 [true, true, true, true, true, false, false, false, false, false, false, false, false, false, false, false] rfl (by kernel_rfl) rfl (fun _ h => (HeapOk.settriv h (i := 0) rfl)) rfl rfl rfl (PureOp.indexAddr Try.underlying29 sz3 rfl rfl AoOk.lit (fun _ => by omega)) ?_
      refine SD.take 6 [true, true, true, true, true, false, true, false, false, false, false, false, false, false, false, false] rfl (by kernel_rfl) rfl (fun _ h => (HeapOk.settriv h (i := 0) rfl)) rfl rfl rfl (PureOp.move rfl) ?_
      refine SD.take 7 [true, true, true, true, true, false, true, true, false, false, false, false, false, false, false, false] rfl (by kernel_rfl) rfl (fun _ h => (HeapOk.settriv h (i := 0) rfl)) rfl rfl rfl (PureOp.move rfl) ?_
      refine SD.take 8 [true, true, true, true, true, false, true, true, true, false, false, false, false, false, false, false] rfl (by kernel_rfl) rfl (fun _ h => (HeapOk.settriv h (i := 0) rfl)) rfl rfl rfl (PureOp.indexAddrN Try.underlying44 sz29 rfl rfl (AoOk.in_ sP) (fun _ => by omega)) ?_
      refine SD.take 9 [true, true, true, true, true, false, true, true, true, true, false, false, false, false, false, false] rfl (by kernel_rfl) rfl (fun _ h => (HeapOk.settriv h (i := 0) rfl)) rfl rfl rfl (PureOp.load (v := .slice ((nth P i).ao) ((nth P i).l.length) ((nth P i).cap)) Try.underlying29 rfl rfl (fun _ => (CellIs.in_ sP i 0 (by omega) (by omega)))) ?_
      refine SD.take 10 [true, true, true, true, true, false, true, true, true, true, true, false, false, false, false, false] rfl (by kernel_rfl) rfl (fun _ h => (HeapOk.settriv h (i := 0) rfl)) rfl rfl rfl (PureOp.move rfl) ?_
      refine SD.take 11 [true, true, true, true, true, false, true, true, true, true, true, true, false, false, false, false] rfl (by kernel_rfl) rfl (fun _ h => (HeapOk.settriv h (i := 0) rfl)) rfl rfl rfl (PureOp.indexAddrN Try.underlying29 sz3 rfl rfl (AoOk.any (fun w hw => (hJ i (by omega)).below hw.below)) (fun _ => by omega)) ?_
      refine SD.take 12 [true, true, true, true, true, false, true, true, true, true, true, true, true, false, false, false] rfl (by kernel_rfl) rfl (fun _ h => (HeapOk.settriv h (i := 0) rfl)) rfl rfl rfl (PureOp.load (v := .int .i64 (nth ((nth P i).l) j)) Try.underlying3 rfl rfl (fun _ => (CellIs.any (fun w hw => (hJ i (by omega)).below hw.below) j 0 (by omega) (by omega)))) ?_
      refine SD.one 5 [true, true, true, true, true, true, true, true, true, true, true, true, true, false, false, false] (by kernel_rfl) rfl rfl ?_
      refine SL.pure rfl rfl rfl (PureOp.load (v := .int .i64 (nth (rmK l P i (rmI l P c i) j) (nth (nth l i).2.2.l j).1.toNat)) Try.underlying3 rfl rfl (fun _ => (CellIs.ownc 0 rfl (((nth ((nth l i).2.2.l) j).1).toNat) 0 (by exact encI_get (by rw [rmK_len, rmI_len]; omega))))) ?_
      refine SD.back (fun _ h => (HeapOk.settriv h (i := 0) rfl)) ?_
      refine SD.take 13 [true, true, true, true, true, true, true, true, true, true, true, true, true, true, false, false] rfl (by kernel_rfl) rfl (fun _ h => (HeapOk.settriv h (i := 0) rfl)) rfl rfl rfl (PureOp.sub rfl rfl (fun _ => by omega)) ?_
      refine SD.take 14 [true, true, true, true, true, true, true, true, true, true, true, true, true, true, true, false] rfl (by kernel_rfl) rfl (fun _ h => (HeapOk.settriv h (i := 0) rfl)) rfl rfl rfl (PureOp.indexAddr Try.underlying29 sz3 rfl rfl AoOk.lit (fun _ => by omega)) ?_
      refine SD.one 15 [true, true, true, true, true, true, true, true, true, true, true, true, true, true, true, true] (by kernel_rfl) rfl rfl ?_
      refine SL.storeown (k := (((nth ((nth l i).2.2.l) j).1).toNat)) (j := 0) 0 rfl rfl rfl rfl sz3 (by rw [cellsOf_length encI_len, rmK_len, rmI_len]; omega) rfl ?_
      refine SL.itemxs 0 rfl (show _ = cellsOf encI (rmK l P i (rmI l P c i) (j + 1)) from encI_set (by rw [rmK_len, rmI_len]; omega)) ?_
      refine SL.norm [_] rfl ?_
      refine SD.back (fun _ h => (HeapOk.settriv h (i := 0) rfl)) ?_
      refine SD.done (by kernel_rfl) ?_
      refine QX.ofK ?_
      refine QX.normal_in ?_
      refine QX.then_ ?_
      refine WC.region ?_
      refine SL.pure rfl rfl rfl (PureOp.move rfl) ?_
      refine SL.pure rfl rfl rfl (PureOp.addN (k := 1) rfl rfl (fun _ => by omega)) ?_
      refine SL.pure rfl rfl rfl (PureOp.assign rfl) ?_
      refine SL.nil ?_
      refine QX.round 1 (j + 1) ⟨(by first | omega | (dsimp only; omega)), by first | omega | (dsimp only; omega)⟩ ⟨rfl, rfl, rfl, rfl, rfl, rfl, rfl, rfl, rfl, rfl, rfl, rfl, rfl, rfl, rfl, rfl, rfl, rfl, rfl, rfl, rfl, rfl, rfl, rfl, rfl, rfl, rfl, rfl, trivial⟩ rfl
    · try simp only [Bool.and_eq_true, Bool.or_eq_true, Bool.not_eq_true', Bool.not_eq_false', Bool.and_eq_false_iff, Bool.or_eq_false_iff, decide_eq_true_eq, decide_eq_false_iff_not, Int.not_lt, Int.not_le, ne_eq, Decidable.not_not] at h2
      have e_ : j = (nth P i).l.length := by omega
      subst e_
      refine WC.exit ?_
      refine QX.exit_then ?_
      refine QX.exit_then ?_
      refine QX.exit_hit ?_
      refine QX.normal_in ?_
      refine QX.then_ ?_
      refine WC.region ?_
      refine SL.pure rfl rfl rfl (PureOp.move rfl) ?_
      refine SL.pure rfl rfl rfl (PureOp.addN (k := 1) rfl rfl (fun _ => by omega)) ?_
      refine SL.pure rfl rfl rfl (PureOp.assign rfl) ?_
      refine SL.nil ?_
      refine QX.round 1 (i + 1) ⟨(by first | omega | (dsimp only; omega)), by first | omega | (dsimp only; omega)⟩ ⟨rfl, rfl, rfl, rfl, rfl, rfl, rfl, rfl, rfl, rfl, rfl, rfl, rfl, rfl, rfl, rfl, rfl, rfl, trivial⟩ rfl
  · try simp only [Bool.and_eq_true, Bool.or_eq_true, Bool.not_eq_true', Bool.not_eq_false', Bool.and_eq_false_iff, Bool.or_eq_false_iff, decide_eq_true_eq, decide_eq_false_iff_not, Int.not_lt, Int.not_le, ne_eq, Decidable.not_not] at h1
    have e_ : i = m := by omega
    subst i
    refine WC.exit ?_
    refine QX.exit_then ?_
    refine QX.exit_then ?_
    refine QX.exit_hit ?_
    refine QX.then_ ?_
    refine WC.seq ?_
    refine WC.region ?_
    refine SL.pure rfl rfl rfl (PureOp.move rfl) ?_
    refine SL.pure rfl rfl rfl (PureOp.assign rfl) ?_
    refine SL.nil_then ?_
    refine WC.ret ?_
    refine QX.ret1 rfl rfl ?_
    intro w hw
    have h : w.ownsRow w0.heap.size 3 1 (.slice ao1_ (0 + q) cap1_) (0 + q) _ := hw.mem (i := 0) rfl
    rw [Nat.zero_add] at h
    exact ⟨ao1_, cap1_, by rw [Nat.zero_add], h⟩

end Go.Proofs.Ytngkbnaehkailaa

namespace Go.Proofs.Ytngkbnaehkailaa
open Go Go.RowKit Eng
set_option linter.unusedVariables false
set_option linter.unusedSimpArgs false

set_option maxHeartbeats 4000000 in
set_option maxRecDepth 100000 in
theorem move52_ok (w0 : World) (l : List Pa) (c : List Int) (P : List (SliceV Int)) (i q cap : Nat) (ao : Option Addr) (o : List St) (hq : q = c.length) (hi : i < l.length) (sW : SliceIn w0 2 (nth l i).2.2.ao (nth l i).2.2.l.length (nth l i).2.2.cap (rowsF enc77 (nth l i).2.2.l)) (sR : SliceIn w0 1 (nth P i).ao (nth P i).l.length (nth P i).cap (rowsF encI (nth P i).l)) (hok : PaOk l c) (hN : NumOk l P) (hS : wayS l l.length ≤ 1024) (hB : BdX c.length 1100000000000000 o) : MC Try.prog 56 [.agg #[.int .i64 ((nth l i).1), .int .i64 ((nth l i).2.1), .slice ((nth l i).2.2.ao) ((nth l i).2.2.l.length) ((nth l i).2.2.cap)], .int .i64 ((i : Nat) : Int), .slice ((nth P i).ao) ((nth P i).l.length) ((nth P i).cap), .slice ao q cap] w0 [Item.own w0.heap.size ao q cap 85 4 (cellsOf encEd o)] (fun _ : Unit => .tuple #[]) (fun _ => [Item.own w0.heap.size ao q cap 85 4 (cellsOf encEd (mvA l P i o ((nth l i).2.2.l.length)))]) (fun _ => True) (fun _ => []) := by
  have hri := hN.row i hi
  have hwi := way_le hS hi
  refine mcalls (N := 94) Try.func56 rfl rfl rfl ?_
  intro X
  show WC _ _ _ _ _ _ _ [Item.own w0.heap.size ao q cap 85 4 (cellsOf encEd o), X]
  refine WC.seq ?_
  refine WC.region ?_
  refine SL.box rfl rfl rfl (fun b1 hb1 => ?_)
  refine SL.norm [_, _, _] rfl ?_
  refine SL.nil_then ?_
  refine WC.seq ?_
  refine WC.region ?_
  refine SL.pure rfl rfl rfl (PureOp.assign rfl) ?_
  refine SL.nil_then ?_
  refine WC.block ?_
  refine WC.loop (σ := Nat) (fun q_ => [(0, 0, .agg #[.int .i64 ((nth l i).1), .int .i64 ((nth l i).2.1), .slice ((nth l i).2.2.ao) ((nth l i).2.2.l.length) ((nth l i).2.2.cap)]), (1, 0, .int .i64 ((i : Nat) : Int)), (2, 0, .slice ((nth P i).ao) ((nth P i).l.length) ((nth P i).cap)), (3, 0, .slice ao q cap), (4, 0, .pointer (some ⟨b1, 0, none⟩)), (8, 0, .int .i64 ((q_ : Nat) : Int))]) (fun q_ => [Item.own w0.heap.size ao q cap 85 4 (cellsOf encEd (mvA l P i o q_)), X, Item.cells b1 [.int .i64 ((nth l i).1), .int .i64 ((nth l i).2.1), .slice ((nth l i).2.2.ao) ((nth l i).2.2.l.length) ((nth l i).2.2.cap)] 55]) (fun q_ => q_ ≤ (nth P i).l.length) (fun q_ => (nth P i).l.length - q_) 3 (0) (Nat.zero_le _) ⟨rfl, rfl, rfl, rfl, rfl, rfl, rfl, rfl, rfl, rfl, rfl, rfl, trivial⟩ rfl ?_
  rintro a ha
  refine WC.seq ?_
  refine WC.seq ?_
  refine WC.region ?_
  refine SL.pure rfl rfl rfl (PureOp.move rfl) ?_
  refine SL.pure rfl rfl rfl (PureOp.move rfl) ?_
  refine SL.pure rfl rfl rfl (PureOp.len rfl Try.underlying29) ?_
  refine SL.pure rfl rfl rfl (PureOp.lss rfl rfl) ?_
  refine SL.nil_then ?_
  refine WC.cond rfl (fun h1 => ?_) (fun h1 => ?_)
  · try simp only [Bool.and_eq_true, Bool.or_eq_true, Bool.not_eq_true', Bool.not_eq_false', Bool.and_eq_false_iff, Bool.or_eq_false_iff, decide_eq_true_eq, decide_eq_false_iff_not, Int.not_lt, Int.not_le, ne_eq, Decidable.not_not] at h1
    refine WC.skip ?_
    refine QX.then_ ?_
    refine WC.seq ?_
    refine WC.block ?_
    refine WC.seq ?_
    refine WC.region ?_
    refine SL.pure rfl rfl rfl (PureOp.assign rfl) ?_
    refine SL.nil_then ?_
    refine WC.block ?_
    refine WC.loop (σ := Nat) (fun q_ => [(0, 0, .agg #[.int .i64 ((nth l i).1), .int .i64 ((nth l i).2.1), .slice ((nth l i).2.2.ao) ((nth l i).2.2.l.length) ((nth l i).2.2.cap)]), (1, 0, .int .i64 ((i : Nat) : Int)), (2, 0, .slice ((nth P i).ao) ((nth P i).l.length) ((nth P i).cap)), (3, 0, .slice ao q cap), (4, 0, .pointer (some ⟨b1, 0, none⟩)), (8, 0, .int .i64 ((a : Nat) : Int)), (13, 0, .int .i64 ((a : Nat) : Int)), (14, 0, .slice ((nth P i).ao) ((nth P i).l.length) ((nth P i).cap)), (15, 0, .int .i64 (((nth P i).l.length : Nat) : Int)), (16, 0, .bool (decide (((a : Nat) : Int) < (((nth P i).l.length : Nat) : Int)))), (9, 0, .int .i64 ((q_ : Nat) : Int))]) (fun q_ => [Item.own w0.heap.size ao q cap 85 4 (cellsOf encEd (mvB l P i a (mvA l P i o a) q_)), X, Item.cells b1 [.int .i64 ((nth l i).1), .int .i64 ((nth l i).2.1), .slice ((nth l i).2.2.ao) ((nth l i).2.2.l.length) ((nth l i).2.2.cap)] 55]) (fun q_ => q_ ≤ (nth P i).l.length) (fun q_ => (nth P i).l.length - q_) 3 (0) (Nat.zero_le _) ⟨rfl, rfl, rfl, rfl, rfl, rfl, rfl, rfl, rfl, rfl, rfl, rfl, rfl, rfl, rfl, rfl, rfl, rfl, rfl, rfl, rfl, rfl, trivial⟩ rfl ?_
    rintro b hb
    refine WC.seq ?_
    refine WC.seq ?_
    refine WC.region ?_
    refine SL.pure rfl rfl rfl (PureOp.move rfl) ?_
    refine SL.pure rfl rfl rfl (PureOp.move rfl) ?_
    refine SL.pure rfl rfl rfl (PureOp.len rfl Try.underlying29) ?_
    refine SL.pure rfl rfl rfl (PureOp.lss rfl rfl) ?_
    refine SL.nil_then ?_
    refine WC.cond rfl (fun h2 => ?_) (fun h2 => ?_)
    · try simp only [Bool.and_eq_true, Bool.or_eq_true, Bool.not_eq_true', Bool.not_eq_false', Bool.and_eq_false_iff, Bool.or_eq_false_iff, decide_eq_true_eq, decide_eq_false_iff_not, Int.not_lt, Int.not_le, ne_eq, Decidable.not_not] at h2
      have hwa := hok.way i hi a (by omega)
      have hwb := hok.way i hi b (by omega)
      have hbd := move_bd (P := P) hok hS hi (a := a) (b := b) (by omega) (by omega) (by omega) hB
      have hlo : o.length = q := by rw [hq]; exact hB.1
      have hba := hbd.at (by omega) (v := (nth (nth l i).2.2.l a).1.toNat) (by omega)
      have hmw : -10000000 ≤ (nth l i).2.1 * ((nth (nth l i).2.2.l b).2 - (nth (nth l i).2.2.l a).2) ∧ (nth l i).2.1 * ((nth (nth l i).2.2.l b).2 - (nth (nth l i).2.2.l a).2) ≤ 10000000 := mvW_bd hok hi (by unfold wyX; omega) (by unfold wyX; omega)
      refine WC.skip ?_
      refine QX.then_ ?_
      refine WC.seq ?_
      refine WC.block ?_
      refine WC.seq ?_
      refine WC.quiet rfl (by kernel_rfl) ?_
      refine SQ.pure rfl rfl rfl (PureOp.fieldAddrT 2 Try.underlying55 rfl sz53 rfl rfl) ?_
      refine SQ.pure rfl rfl rfl (PureOp.load (v := .slice ((nth l i).2.2.ao) ((nth l i).2.2.l.length) ((nth l i).2.2.cap)) Try.underlying53 rfl rfl (fun _ => (CellIs.cells 2 rfl rfl))) ?_
      refine SQ.pure rfl rfl rfl (PureOp.move rfl) ?_
      refine SQ.pure rfl rfl rfl (PureOp.indexAddrN Try.underlying53 sz77 rfl rfl (AoOk.in_ sW) (fun _ => by first | omega | (rw [cellsOf_length encEd_len, mvB_len, mvA_len]; show _ + 4 ≤ _; omega))) ?_
      refine SQ.pure rfl rfl rfl (PureOp.fieldAddr 0 Try.underlying77 rfl rfl sz3 rfl) ?_
      refine SQ.pure rfl rfl rfl (PureOp.load (v := .int .i64 ((nth ((nth l i).2.2.l) a).1)) Try.underlying3 rfl rfl (fun _ => (CellIs.in_ sW a 0 (by first | omega | (rw [cellsOf_length encEd_len, mvB_len, mvA_len]; show _ + 4 ≤ _; omega)) (by omega)))) ?_
      refine SQ.pure rfl rfl rfl (PureOp.fieldAddrT 2 Try.underlying55 rfl sz53 rfl rfl) ?_
      refine SQ.pure rfl rfl rfl (PureOp.load (v := .slice ((nth l i).2.2.ao) ((nth l i).2.2.l.length) ((nth l i).2.2.cap)) Try.underlying53 rfl rfl (fun _ => (CellIs.cells 2 rfl rfl))) ?_
      refine SQ.pure rfl rfl rfl (PureOp.move rfl) ?_
      refine SQ.pure rfl rfl rfl (PureOp.indexAddrN Try.underlying53 sz77 rfl rfl (AoOk.in_ sW) (fun _ => by first | omega | (rw [cellsOf_length encEd_len, mvB_len, mvA_len]; show _ + 4 ≤ _; omega))) ?_
      refine SQ.pure rfl rfl rfl (PureOp.fieldAddr 0 Try.underlying77 rfl rfl sz3 rfl) ?_
      refine SQ.pure rfl rfl rfl (PureOp.load (v := .int .i64 ((nth ((nth l i).2.2.l) b).1)) Try.underlying3 rfl rfl (fun _ => (CellIs.in_ sW b 0 (by first | omega | (rw [cellsOf_length encEd_len, mvB_len, mvA_len]; show _ + 4 ≤ _; omega)) (by omega)))) ?_
      refine SQ.pure rfl rfl rfl (PureOp.assign rfl) ?_
      refine SQ.pure rfl rfl rfl (PureOp.assign rfl) ?_
      refine SQ.nil_then ?_
      refine WC.seq ?_
      refine WC.quiet rfl (by kernel_rfl) ?_
      refine SQ.pure rfl rfl rfl (PureOp.move rfl) ?_
      refine SQ.pure rfl rfl rfl (PureOp.move rfl) ?_
      refine SQ.pure rfl rfl rfl (PureOp.indexAddr Try.underlying82 sz85 rfl rfl (AoOk.own 0 rfl) (fun _ => by first | omega | (rw [cellsOf_length encEd_len, mvB_len, mvA_len]; show _ + 4 ≤ _; omega))) ?_
      refine SQ.pure rfl rfl rfl (PureOp.fieldAddr 0 Try.underlying85 rfl rfl sz3 rfl) ?_
      refine SQ.pure rfl rfl rfl (PureOp.load (v := .int .i64 ((nth (mvB l P i a (mvA l P i o a) b) (((nth ((nth l i).2.2.l) a).1).toNat)).1)) Try.underlying3 rfl rfl (fun _ => (CellIs.ownc 0 rfl (((nth ((nth l i).2.2.l) a).1).toNat) 0 (by exact encEd_get (by rw [mvB_len, mvA_len]; omega) (by decide))))) ?_
      refine SQ.pure rfl rfl rfl (PureOp.fieldAddrT 1 Try.underlying55 rfl sz3 rfl rfl) ?_
      refine SQ.pure rfl rfl rfl (PureOp.load (v := .int .i64 ((nth l i).2.1)) Try.underlying3 rfl rfl (fun _ => (CellIs.cells 2 rfl rfl))) ?_
      refine SQ.pure rfl rfl rfl (PureOp.fieldAddrT 2 Try.underlying55 rfl sz53 rfl rfl) ?_
      refine SQ.pure rfl rfl rfl (PureOp.load (v := .slice ((nth l i).2.2.ao) ((nth l i).2.2.l.length) ((nth l i).2.2.cap)) Try.underlying53 rfl rfl (fun _ => (CellIs.cells 2 rfl rfl))) ?_
      refine SQ.pure rfl rfl rfl (PureOp.move rfl) ?_
      refine SQ.pure rfl rfl rfl (PureOp.indexAddrN Try.underlying53 sz77 rfl rfl (AoOk.in_ sW) (fun _ => by first | omega | (rw [cellsOf_length encEd_len, mvB_len, mvA_len]; show _ + 4 ≤ _; omega))) ?_
      refine SQ.pure rfl rfl rfl (PureOp.fieldAddr 1 Try.underlying77 rfl rfl sz3 rfl) ?_
      refine SQ.pure rfl rfl rfl (PureOp.load (v := .int .i64 ((nth ((nth l i).2.2.l) b).2)) Try.underlying3 rfl rfl (fun _ => (CellIs.in_ sW b 1 (by first | omega | (rw [cellsOf_length encEd_len, mvB_len, mvA_len]; show _ + 4 ≤ _; omega)) (by omega)))) ?_
      refine SQ.pure rfl rfl rfl (PureOp.fieldAddrT 2 Try.underlying55 rfl sz53 rfl rfl) ?_
      refine SQ.pure rfl rfl rfl (PureOp.load (v := .slice ((nth l i).2.2.ao) ((nth l i).2.2.l.length) ((nth l i).2.2.cap)) Try.underlying53 rfl rfl (fun _ => (CellIs.cells 2 rfl rfl))) ?_
      refine SQ.pure rfl rfl rfl (PureOp.move rfl) ?_
      refine SQ.pure rfl rfl rfl (PureOp.indexAddrN Try.underlying53 sz77 rfl rfl (AoOk.in_ sW) (fun _ => by first | omega | (rw [cellsOf_length encEd_len, mvB_len, mvA_len]; show _ + 4 ≤ _; omega))) ?_
      refine SQ.pure rfl rfl rfl (PureOp.fieldAddr 1 Try.underlying77 rfl rfl sz3 rfl) ?_
      refine SQ.pure rfl rfl rfl (PureOp.load (v := .int .i64 ((nth ((nth l i).2.2.l) a).2)) Try.underlying3 rfl rfl (fun _ => (CellIs.in_ sW a 1 (by first | omega | (rw [cellsOf_length encEd_len, mvB_len, mvA_len]; show _ + 4 ≤ _; omega)) (by omega)))) ?_
      refine SQ.pure rfl rfl rfl (PureOp.sub rfl rfl (fun _ => by first | omega | (rw [cellsOf_length encEd_len, mvB_len, mvA_len]; show _ + 4 ≤ _; omega))) ?_
      refine SQ.pure rfl rfl rfl (PureOp.mul rfl rfl (fun _ => by first | omega | (rw [cellsOf_length encEd_len, mvB_len, mvA_len]; show _ + 4 ≤ _; omega))) ?_
      refine SQ.pure rfl rfl rfl (PureOp.add rfl rfl (fun _ => by first | omega | (rw [cellsOf_length encEd_len, mvB_len, mvA_len]; show _ + 4 ≤ _; omega))) ?_
      refine SQ.pure rfl rfl rfl (PureOp.assign rfl) ?_
      refine SQ.nil_then ?_
      refine WC.seq ?_
      refine WC.region ?_
      refine SL.pure rfl rfl rfl (PureOp.move rfl) ?_
      refine SL.pure rfl rfl rfl (PureOp.move rfl) ?_
      refine SL.pure rfl rfl rfl (PureOp.indexAddrN Try.underlying29 sz3 rfl rfl (AoOk.in_ sR) (fun _ => by first | omega | (rw [cellsOf_length encEd_len, mvB_len, mvA_len]; show _ + 4 ≤ _; omega))) ?_
      refine SL.pure rfl rfl rfl (PureOp.load (v := .int .i64 (nth ((nth P i).l) a)) Try.underlying3 rfl rfl (fun _ => (CellIs.in_ sR a 0 (by first | omega | (rw [cellsOf_length encEd_len, mvB_len, mvA_len]; show _ + 4 ≤ _; omega)) (by omega)))) ?_
      refine SL.pure rfl rfl rfl (PureOp.gtr rfl rfl) ?_
      refine SL.pure rfl rfl rfl (PureOp.move rfl) ?_
      refine SL.newg 64 true rfl ?_
      refine SL.gpure (c := 1) rfl rfl rfl rfl rfl rfl rfl (PureOp.move rfl) ?_
      refine SL.gpure (c := 1) rfl rfl rfl rfl rfl rfl rfl (PureOp.move rfl) ?_
      refine SL.gpure (c := 1) rfl rfl rfl rfl rfl rfl rfl (PureOp.neq rfl rfl) ?_
      refine SL.pure rfl rfl rfl (PureOp.and_ rfl rfl rfl rfl) ?_
      refine SL.pure rfl rfl rfl (PureOp.move rfl) ?_
      refine SL.newg 69 true rfl ?_
      refine SL.gpure (c := 2) rfl rfl rfl rfl rfl rfl rfl (PureOp.move rfl) ?_
      refine SL.gpure (c := 2) rfl rfl rfl rfl rfl rfl rfl (PureOp.move rfl) ?_
      refine SL.gpure (c := 2) rfl rfl rfl rfl rfl rfl rfl (PureOp.indexAddr Try.underlying82 sz85 rfl rfl (AoOk.own 0 rfl) (by intro hg; simp [gval] at hg; first | omega | (rw [cellsOf_length encEd_len, mvB_len, mvA_len]; show _ + 4 ≤ _; omega))) ?_
      refine SL.gpure (c := 2) rfl rfl rfl rfl rfl rfl rfl (PureOp.fieldAddr 0 Try.underlying85 rfl rfl sz3 rfl) ?_
      refine SL.gpure (c := 2) rfl rfl rfl rfl rfl rfl rfl (PureOp.load (v := .int .i64 ((nth (mvB l P i a (mvA l P i o a) b) (((nth ((nth l i).2.2.l) a).1).toNat)).1)) Try.underlying3 rfl rfl (by intro hg; simp [gval] at hg; exact (CellIs.ownc 0 rfl (((nth ((nth l i).2.2.l) a).1).toNat) 0 (by exact encEd_get (by rw [mvB_len, mvA_len]; omega) (by decide))))) ?_
      refine SL.gpure (c := 2) rfl rfl rfl rfl rfl rfl rfl (PureOp.lss rfl rfl) ?_
      refine SL.pure rfl rfl rfl (PureOp.and_ rfl rfl rfl rfl) ?_
      refine SL.pure rfl rfl rfl (PureOp.move rfl) ?_
      refine SL.newg 77 true rfl ?_
      refine SL.gpure (c := 3) rfl rfl rfl rfl rfl rfl rfl (PureOp.move rfl) ?_
      refine SL.gpure (c := 3) rfl rfl rfl rfl rfl rfl rfl (PureOp.move rfl) ?_
      refine SL.gpure (c := 3) rfl rfl rfl rfl rfl rfl rfl (PureOp.move rfl) ?_
      refine SL.gpure (c := 3) rfl rfl rfl rfl rfl rfl rfl (PureOp.indexAddr Try.underlying82 sz85 rfl rfl (AoOk.own 0 rfl) (by intro hg; simp [gval] at hg; first | omega | (rw [cellsOf_length encEd_len, mvB_len, mvA_len]; show _ + 4 ≤ _; omega))) ?_
      refine SL.gpure (c := 3) rfl rfl rfl rfl rfl rfl rfl (PureOp.fieldAddr 0 Try.underlying85 rfl rfl sz3 rfl) ?_
      refine SL.gpure (c := 3) rfl rfl rfl rfl rfl rfl rfl (PureOp.load (v := .int .i64 ((nth (mvB l P i a (mvA l P i o a) b) (((nth ((nth l i).2.2.l) b).1).toNat)).1)) Try.underlying3 rfl rfl (by intro hg; simp [gval] at hg; exact (CellIs.ownc 0 rfl (((nth ((nth l i).2.2.l) b).1).toNat) 0 (by exact encEd_get (by rw [mvB_len, mvA_len]; omega) (by decide))))) ?_
      refine SL.gpure (c := 3) rfl rfl rfl rfl rfl rfl rfl (PureOp.lss rfl rfl) ?_
      refine SL.pure rfl rfl rfl (PureOp.and_ rfl rfl rfl rfl) ?_
      refine SL.nil_then ?_
      refine WC.cond rfl (fun h3 => ?_) (fun h3 => ?_)
      · try simp only [Bool.and_eq_true, Bool.or_eq_true, Bool.not_eq_true', Bool.not_eq_false', Bool.and_eq_false_iff, Bool.or_eq_false_iff, decide_eq_true_eq, decide_eq_false_iff_not, Int.not_lt, Int.not_le, ne_eq, Decidable.not_not] at h3
        refine WC.region ?_
        refine SL.pure rfl rfl rfl (PureOp.move rfl) ?_
        refine SL.pure rfl rfl rfl (PureOp.move rfl) ?_
        refine SL.pure rfl rfl rfl (PureOp.move rfl) ?_
        refine SL.pure rfl rfl rfl (PureOp.move rfl) ?_
        refine SL.pure rfl rfl rfl (PureOp.move rfl) ?_
        refine SL.pure rfl rfl rfl (PureOp.move rfl) ?_
        refine SL.pure rfl rfl rfl (PureOp.build bld85 rfl rfl) ?_
        refine SL.pure rfl rfl rfl (PureOp.indexAddr Try.underlying82 sz85 rfl rfl (AoOk.own 0 rfl) (fun _ => by first | omega | (rw [cellsOf_length encEd_len, mvB_len, mvA_len]; show _ + 4 ≤ _; omega))) ?_
        refine SL.storerow (k := (((nth ((nth l i).2.2.l) b).1).toNat)) (j := 0) 0 rfl rfl rfl rfl sz85 (by first | omega | (rw [cellsOf_length encEd_len, mvB_len, mvA_len]; show _ + 4 ≤ _; omega)) rfl ?_
        refine SL.itemxs 0 rfl (show _ = cellsOf encEd (mvB l P i a (mvA l P i o a) (b + 1)) from by rw [mvB_on (by omega) (by omega) (by omega) (by omega)]; exact encEd_row (o := mvB l P i a (mvA l P i o a) b) (k := (nth (nth l i).2.2.l b).1.toNat) (x := ((nth (mvB l P i a (mvA l P i o a) b) (nth (nth l i).2.2.l a).1.toNat).1 + (nth l i).2.1 * ((nth (nth l i).2.2.l b).2 - (nth (nth l i).2.2.l a).2), (i : Int), (b : Int), (a : Int))) (by rw [mvB_len, mvA_len]; omega)) ?_
        refine SL.norm [_, _, _] rfl ?_
        refine SL.nil ?_
        refine QX.normal_in ?_
        refine QX.then_ ?_
        refine WC.region ?_
        refine SL.pure rfl rfl rfl (PureOp.move rfl) ?_
        refine SL.pure rfl rfl rfl (PureOp.addN (k := 1) rfl rfl (fun _ => by first | omega | (rw [cellsOf_length encEd_len, mvB_len, mvA_len]; show _ + 4 ≤ _; omega))) ?_
        refine SL.pure rfl rfl rfl (PureOp.assign rfl) ?_
        refine SL.nil ?_
        refine QX.round 3 (b + 1) ⟨(by first | omega | (dsimp only; omega)), by first | omega | (dsimp only; omega)⟩ ⟨rfl, rfl, rfl, rfl, rfl, rfl, rfl, rfl, rfl, rfl, rfl, rfl, rfl, rfl, rfl, rfl, rfl, rfl, rfl, rfl, rfl, rfl, trivial⟩ rfl
      · try simp only [Bool.and_eq_true, Bool.or_eq_true, Bool.not_eq_true', Bool.not_eq_false', Bool.and_eq_false_iff, Bool.or_eq_false_iff, decide_eq_true_eq, decide_eq_false_iff_not, Int.not_lt, Int.not_le, ne_eq, Decidable.not_not] at h3
        refine WC.skip ?_
        refine QX.normal_in ?_
        refine QX.then_ ?_
        refine WC.region ?_
        refine SL.pure rfl rfl rfl (PureOp.move rfl) ?_
        refine SL.pure rfl rfl rfl (PureOp.addN (k := 1) rfl rfl (fun _ => by first | omega | (rw [cellsOf_length encEd_len, mvB_len, mvA_len]; show _ + 4 ≤ _; omega))) ?_
        refine SL.pure rfl rfl rfl (PureOp.assign rfl) ?_
        refine SL.nil ?_
        refine QX.round 3 (b + 1) ⟨(by first | omega | (dsimp only; omega)), by first | omega | (dsimp only; omega)⟩ ⟨rfl, rfl, rfl, rfl, rfl, rfl, rfl, rfl, rfl, rfl, rfl, rfl, rfl, rfl, rfl, rfl, rfl, rfl, rfl, rfl, rfl, rfl, trivial⟩ (by rw [mvB_off (by intros; omega)]; rfl)
    · try simp only [Bool.and_eq_true, Bool.or_eq_true, Bool.not_eq_true', Bool.not_eq_false', Bool.and_eq_false_iff, Bool.or_eq_false_iff, decide_eq_true_eq, decide_eq_false_iff_not, Int.not_lt, Int.not_le, ne_eq, Decidable.not_not] at h2
      have e_ : b = (nth l i).2.2.l.length := by omega
      subst e_
      refine WC.exit ?_
      refine QX.exit_then ?_
      refine QX.exit_then ?_
      refine QX.exit_hit ?_
      refine QX.normal_in ?_
      refine QX.then_ ?_
      refine WC.region ?_
      refine SL.pure rfl rfl rfl (PureOp.move rfl) ?_
      refine SL.pure rfl rfl rfl (PureOp.addN (k := 1) rfl rfl (fun _ => by first | omega | (rw [cellsOf_length encEd_len, mvB_len, mvA_len]; show _ + 4 ≤ _; omega))) ?_
      refine SL.pure rfl rfl rfl (PureOp.assign rfl) ?_
      refine SL.nil ?_
      refine QX.round 3 (a + 1) ⟨(by first | omega | (dsimp only; omega)), by first | omega | (dsimp only; omega)⟩ ⟨rfl, rfl, rfl, rfl, rfl, rfl, rfl, rfl, rfl, rfl, rfl, rfl, trivial⟩ rfl
  · try simp only [Bool.and_eq_true, Bool.or_eq_true, Bool.not_eq_true', Bool.not_eq_false', Bool.and_eq_false_iff, Bool.or_eq_false_iff, decide_eq_true_eq, decide_eq_false_iff_not, Int.not_lt, Int.not_le, ne_eq, Decidable.not_not] at h1
    have e_ : a = (nth P i).l.length := by omega
    subst e_
    refine WC.exit ?_
    refine QX.exit_then ?_
    refine QX.exit_then ?_
    refine QX.exit_hit ?_
    refine QX.bodyn rfl ?_
    intro w hw
    refine ⟨(), rfl, trivial, ?_⟩
    rw [hri] at hw
    exact HeapOk.pick [0, 1] (by decide) hw

end Go.Proofs.Ytngkbnaehkailaa

namespace Go.Proofs.Ytngkbnaehkailaa
open Go Go.RowKit Eng
set_option linter.unusedVariables false
set_option linter.unusedSimpArgs false

set_option maxHeartbeats 4000000 in
set_option maxRecDepth 100000 in
theorem rreach52_ok (w0 : World) (l : List Pa) (la : Option Addr) (m lc : Nat) (hm : m = l.length) (hI : ∀ i, i < m → SliceIn w0 2 (nth l i).2.2.ao (nth l i).2.2.l.length (nth l i).2.2.cap (rowsF enc77 (nth l i).2.2.l)) (sL : SliceIn w0 3 la m lc (rowsF enc55 l)) (c : List Int) (ca : Option Addr) (q cc : Nat) (hq : q = c.length) (sC : SliceIn w0 1 ca q cc (rowsF encI c)) (P : List (SliceV Int)) (pa : Option Addr) (u pc : Nat) (hu : u = P.length) (hJ : ∀ i, i < u → SliceIn w0 1 (nth P i).ao (nth P i).l.length (nth P i).cap (rowsF encI (nth P i).l)) (sP : SliceIn w0 1 pa u pc (rowsF encSl P)) (hok : PaOk l c) (hN : NumOk l P) (hS : wayS l m ≤ 1024) : FnC Try.prog 53 [.slice la m lc, .slice ca q cc, .slice pa u pc] w0 fun v w' => ∃ a cp, v = .slice a q cp ∧ w'.ownsRow w0.heap.size 85 4 (.slice a q cp) q (cellsOf encEd (rchX l P m q (lfX l P))) := by
  have hum : u = m := by rw [hu, hm]; exact hN.len
  have hnl := hok.nl
  have hnc := hok.nc
  have hS2 : wayS l l.length ≤ 1024 := by rw [← hm]; exact hS
  refine fnc (N := 116) Try.func53 rfl rfl rfl ?_
  refine WC.seq ?_
  refine WC.region ?_
  refine SL.pure rfl rfl rfl (PureOp.assign rfl) ?_
  refine SL.nil_then ?_
  refine WC.seq ?_
  refine WC.region ?_
  refine SL.pure rfl rfl rfl (PureOp.move rfl) ?_
  refine SL.pure rfl rfl rfl (PureOp.len rfl Try.underlying29) ?_
  refine SL.make rfl rfl Try.underlying82 elem85 rfl rfl (by first | omega | (rw [cellsOf_length encEd_len, sdK_len2]; show _ + 4 ≤ _; omega)) (by first | omega | (rw [cellsOf_length encEd_len, sdK_len2]; show _ + 4 ≤ _; omega)) (fun b1 hb1 => ?_)
  refine SL.itemxs 0 rfl (show _ = cellsOf encEd (iniF q 0) from by rw [rep_St]; rfl) ?_
  refine SL.norm [_] rfl ?_
  refine SL.pure rfl rfl rfl (PureOp.assign rfl) ?_
  refine SL.nil_then ?_
  refine WC.seq ?_
  refine WC.seq ?_
  refine WC.region ?_
  refine SL.pure rfl rfl rfl (PureOp.assign rfl) ?_
  refine SL.nil_then ?_
  refine WC.block ?_
  refine WC.loop (σ := Nat) (fun q_ => [(0, 0, .slice la m lc), (1, 0, .slice ca q cc), (2, 0, .slice pa u pc), (6, 0, .slice none 0 0), (7, 0, .slice (some ⟨b1, 0, none⟩) q q), (15, 0, .slice ca q cc), (16, 0, .int .i64 ((q : Nat) : Int)), (17, 0, .slice (some ⟨b1, 0, none⟩) q q), (8, 0, .int .i64 ((q_ : Nat) : Int))]) (fun q_ => [Item.own w0.heap.size (some ⟨b1, 0, none⟩) q q 85 4 (cellsOf encEd (iniF q q_))]) (fun q_ => q_ ≤ q) (fun q_ => q - q_) 1 (0) (Nat.zero_le _) ⟨rfl, rfl, rfl, rfl, rfl, rfl, rfl, rfl, rfl, rfl, rfl, rfl, rfl, rfl, rfl, rfl, rfl, rfl, trivial⟩ rfl ?_
  rintro v0 hv0
  refine WC.seq ?_
  refine WC.seq ?_
  refine WC.region ?_
  refine SL.pure rfl rfl rfl (PureOp.move rfl) ?_
  refine SL.pure rfl rfl rfl (PureOp.move rfl) ?_
  refine SL.pure rfl rfl rfl (PureOp.len rfl Try.underlying82) ?_
  refine SL.pure rfl rfl rfl (PureOp.lss rfl rfl) ?_
  refine SL.nil_then ?_
  refine WC.cond rfl (fun h1 => ?_) (fun h1 => ?_)
  · try simp only [Bool.and_eq_true, Bool.or_eq_true, Bool.not_eq_true', Bool.not_eq_false', Bool.and_eq_false_iff, Bool.or_eq_false_iff, decide_eq_true_eq, decide_eq_false_iff_not, Int.not_lt, Int.not_le, ne_eq, Decidable.not_not] at h1
    refine WC.skip ?_
    refine QX.then_ ?_
    refine WC.seq ?_
    refine WC.block ?_
    refine WC.region ?_
    refine SL.pure rfl rfl rfl (PureOp.move rfl) ?_
    refine SL.pure rfl rfl rfl (PureOp.move rfl) ?_
    refine SL.pure rfl rfl rfl (PureOp.indexAddrN Try.underlying82 sz85 rfl rfl AoOk.lit (fun _ => by first | omega | (rw [cellsOf_length encEd_len, sdK_len2]; show _ + 4 ≤ _; omega))) ?_
    refine SL.pure rfl rfl rfl (PureOp.fieldAddr 0 Try.underlying85 rfl rfl sz3 rfl) ?_
    refine SL.storeown (k := v0) (j := 0) 0 rfl rfl rfl rfl sz3 (by rw [cellsOf_length encEd_len, iniF_len]; omega) rfl ?_
    refine SL.itemxs 0 rfl (show _ = cellsOf encEd (iniF q (v0 + 1)) from ini_step (by omega)) ?_
    refine SL.norm [_] rfl ?_
    refine SL.nil ?_
    refine QX.normal_in ?_
    refine QX.then_ ?_
    refine WC.region ?_
    refine SL.pure rfl rfl rfl (PureOp.move rfl) ?_
    refine SL.pure rfl rfl rfl (PureOp.addN (k := 1) rfl rfl (fun _ => by first | omega | (rw [cellsOf_length encEd_len, sdK_len2]; show _ + 4 ≤ _; omega))) ?_
    refine SL.pure rfl rfl rfl (PureOp.assign rfl) ?_
    refine SL.nil ?_
    refine QX.round 1 (v0 + 1) ⟨(by first | omega | (dsimp only; omega)), by first | omega | (dsimp only; omega)⟩ ⟨rfl, rfl, rfl, rfl, rfl, rfl, rfl, rfl, rfl, rfl, rfl, rfl, rfl, rfl, rfl, rfl, rfl, rfl, trivial⟩ rfl
  · try simp only [Bool.and_eq_true, Bool.or_eq_true, Bool.not_eq_true', Bool.not_eq_false', Bool.and_eq_false_iff, Bool.or_eq_false_iff, decide_eq_true_eq, decide_eq_false_iff_not, Int.not_lt, Int.not_le, ne_eq, Decidable.not_not] at h1
    have e_ : v0 = q := by omega
    subst v0
    refine WC.heap (H' := [Item.own w0.heap.size (some ⟨b1, 0, none⟩) q q 85 4 (cellsOf encEd (rch0 q))]) (fun w hw => by rw [← ini_full]; exact hw) ?_
    refine WC.exit ?_
    refine QX.exit_then ?_
    refine QX.exit_then ?_
    refine QX.exit_hit ?_
    refine QX.then_ ?_
    refine WC.seq ?_
    refine WC.region ?_
    refine SL.pure rfl rfl rfl (PureOp.move rfl) ?_
    refine SL.pure rfl rfl rfl (PureOp.move rfl) ?_
    refine SL.callo (fun fa fc => .slice fa m fc) rfl rfl rfl rfl rfl rfl callable36 (fun w hw => rleft52_ok w l la m lc hm (fun i hi => (hI i hi).below hw.below) (sL.below hw.below) P pa u pc hu (fun i hi => (hJ i hi).below hw.below) (sP.below hw.below) hN (by omega) (fun i hi => hok.cnt i (by omega)) (fun i hi => way_le hS2 (by omega))) (fun fa fc => ?_)
    refine SL.norm [_, _] rfl ?_
    refine SL.pure rfl rfl rfl (PureOp.assign rfl) ?_
    refine SL.nil_then ?_
    refine WC.seq ?_
    refine WC.seq ?_
    refine WC.region ?_
    refine SL.pure rfl rfl rfl (PureOp.assign rfl) ?_
    refine SL.nil_then ?_
    refine WC.block ?_
    refine WC.loop (σ := Nat) (fun q_ => [(0, 0, .slice la m lc), (1, 0, .slice ca q cc), (2, 0, .slice pa u pc), (6, 0, .slice none 0 0), (7, 0, .slice (some ⟨b1, 0, none⟩) q q), (8, 0, .int .i64 ((q : Nat) : Int)), (9, 0, .slice fa m fc), (15, 0, .slice ca q cc), (16, 0, .int .i64 ((q : Nat) : Int)), (17, 0, .slice (some ⟨b1, 0, none⟩) q q), (18, 0, .int .i64 ((q : Nat) : Int)), (19, 0, .slice (some ⟨b1, 0, none⟩) q q), (20, 0, .int .i64 ((q : Nat) : Int)), (21, 0, .bool (decide (((q : Nat) : Int) < ((q : Nat) : Int)))), (28, 0, .slice la m lc), (29, 0, .slice pa u pc), (30, 0, .slice fa m fc), (10, 0, .int .i64 ((q_ : Nat) : Int))]) (fun q_ => [Item.own w0.heap.size (some ⟨b1, 0, none⟩) q q 85 4 (cellsOf encEd (sdI l (lfX l P) (rch0 q) q_)), Item.own w0.heap.size fa m fc 3 1 (cellsOf encI (lfL l P m))]) (fun q_ => q_ ≤ m) (fun q_ => m - q_) 2 (0) (Nat.zero_le _) ⟨rfl, rfl, rfl, rfl, rfl, rfl, rfl, rfl, rfl, rfl, rfl, rfl, rfl, rfl, rfl, rfl, rfl, rfl, rfl, rfl, rfl, rfl, rfl, rfl, rfl, rfl, rfl, rfl, rfl, rfl, rfl, rfl, rfl, rfl, rfl, rfl, trivial⟩ rfl ?_
    rintro i hi
    refine WC.seq ?_
    refine WC.seq ?_
    refine WC.region ?_
    refine SL.pure rfl rfl rfl (PureOp.move rfl) ?_
    refine SL.pure rfl rfl rfl (PureOp.move rfl) ?_
    refine SL.pure rfl rfl rfl (PureOp.len rfl Try.underlying43) ?_
    refine SL.pure rfl rfl rfl (PureOp.lss rfl rfl) ?_
    refine SL.nil_then ?_
    refine WC.cond rfl (fun h2 => ?_) (fun h2 => ?_)
    · try simp only [Bool.and_eq_true, Bool.or_eq_true, Bool.not_eq_true', Bool.not_eq_false', Bool.and_eq_false_iff, Bool.or_eq_false_iff, decide_eq_true_eq, decide_eq_false_iff_not, Int.not_lt, Int.not_le, ne_eq, Decidable.not_not] at h2
      have hlf := lfL_nth hN l.length (Nat.le_refl _) i (by omega)
      rw [← hm] at hlf
      have hwl := way_le hS2 (i := i) (by omega)
      have hlo : (sdI l (lfX l P) (rch0 q) i).length = q := by rw [sdI_len2]; simp [rch0]
      refine WC.skip ?_
      refine QX.then_ ?_
      refine WC.seq ?_
      refine WC.block ?_
      refine WC.seq ?_
      refine WC.region ?_
      refine SL.pure rfl rfl rfl (PureOp.assign rfl) ?_
      refine SL.nil_then ?_
      refine WC.block ?_
      refine WC.loop (σ := Nat) (fun q_ => [(0, 0, .slice la m lc), (1, 0, .slice ca q cc), (2, 0, .slice pa u pc), (6, 0, .slice none 0 0), (7, 0, .slice (some ⟨b1, 0, none⟩) q q), (8, 0, .int .i64 ((q : Nat) : Int)), (9, 0, .slice fa m fc), (10, 0, .int .i64 ((i : Nat) : Int)), (15, 0, .slice ca q cc), (16, 0, .int .i64 ((q : Nat) : Int)), (17, 0, .slice (some ⟨b1, 0, none⟩) q q), (18, 0, .int .i64 ((q : Nat) : Int)), (19, 0, .slice (some ⟨b1, 0, none⟩) q q), (20, 0, .int .i64 ((q : Nat) : Int)), (21, 0, .bool (decide (((q : Nat) : Int) < ((q : Nat) : Int)))), (28, 0, .slice la m lc), (29, 0, .slice pa u pc), (30, 0, .slice fa m fc), (31, 0, .int .i64 ((i : Nat) : Int)), (32, 0, .slice la m lc), (33, 0, .int .i64 ((m : Nat) : Int)), (34, 0, .bool (decide (((i : Nat) : Int) < ((m : Nat) : Int)))), (11, 0, .int .i64 ((q_ : Nat) : Int))]) (fun q_ => [Item.own w0.heap.size (some ⟨b1, 0, none⟩) q q 85 4 (cellsOf encEd (sdK l i (sdI l (lfX l P) (rch0 q) i) q_)), Item.own w0.heap.size fa m fc 3 1 (cellsOf encI (lfL l P m))]) (fun q_ => q_ ≤ (nth l i).2.2.l.length ∧ (0 < nth (lfL l P m) i ∨ q_ = 0)) (fun q_ => (nth l i).2.2.l.length - q_) 2 (0) (⟨Nat.zero_le _, .inr rfl⟩) ⟨rfl, rfl, rfl, rfl, rfl, rfl, rfl, rfl, rfl, rfl, rfl, rfl, rfl, rfl, rfl, rfl, rfl, rfl, rfl, rfl, rfl, rfl, rfl, rfl, rfl, rfl, rfl, rfl, rfl, rfl, rfl, rfl, rfl, rfl, rfl, rfl, rfl, rfl, rfl, rfl, rfl, rfl, rfl, rfl, rfl, rfl, trivial⟩ rfl ?_
      rintro k ⟨hk, hkl⟩
      refine WC.seq ?_
      refine WC.seq ?_
      refine WC.region ?_
      refine SL.pure rfl rfl rfl (PureOp.move rfl) ?_
      refine SL.pure rfl rfl rfl (PureOp.move rfl) ?_
      refine SL.pure rfl rfl rfl (PureOp.move rfl) ?_
      refine SL.pure rfl rfl rfl (PureOp.indexAddrN Try.underlying43 sz55 rfl rfl (AoOk.in_ sL) (fun _ => by first | omega | (rw [cellsOf_length encEd_len, sdK_len2]; show _ + 4 ≤ _; omega))) ?_
      refine SL.pure rfl rfl rfl (PureOp.fieldAddr 2 Try.underlying55 rfl rfl sz53 rfl) ?_
      refine SL.pure rfl rfl rfl (PureOp.load (v := .slice ((nth l i).2.2.ao) ((nth l i).2.2.l.length) ((nth l i).2.2.cap)) Try.underlying53 rfl rfl (fun _ => (CellIs.in_ sL i 2 (by first | omega | (rw [cellsOf_length encEd_len, sdK_len2]; show _ + 4 ≤ _; omega)) (by omega)))) ?_
      refine SL.pure rfl rfl rfl (PureOp.len rfl Try.underlying53) ?_
      refine SL.pure rfl rfl rfl (PureOp.lss rfl rfl) ?_
      refine SL.pure rfl rfl rfl (PureOp.move rfl) ?_
      refine SL.newg 45 true rfl ?_
      refine SL.gpure (c := 1) rfl rfl rfl rfl rfl rfl rfl (PureOp.move rfl) ?_
      refine SL.gpure (c := 1) rfl rfl rfl rfl rfl rfl rfl (PureOp.move rfl) ?_
      refine SL.gpure (c := 1) rfl rfl rfl rfl rfl rfl rfl (PureOp.indexAddrN Try.underlying29 sz3 rfl rfl (AoOk.own 1 rfl) (by intro hg; simp [gval] at hg; first | omega | (rw [cellsOf_length encEd_len, sdK_len2]; show _ + 4 ≤ _; omega))) ?_
      refine SL.gpure (c := 1) rfl rfl rfl rfl rfl rfl rfl (PureOp.load (v := .int .i64 (nth (lfL l P m) i)) Try.underlying3 rfl rfl (by intro hg; simp [gval] at hg; exact (CellIs.ownc 1 rfl i 0 (by exact encI_get (by rw [lfL_len]; omega))))) ?_
      refine SL.gpure (c := 1) rfl rfl rfl rfl rfl rfl rfl (PureOp.gtr rfl rfl) ?_
      refine SL.pure rfl rfl rfl (PureOp.and_ rfl rfl rfl rfl) ?_
      refine SL.nil_then ?_
      refine WC.cond rfl (fun h3 => ?_) (fun h3 => ?_)
      · try simp only [Bool.and_eq_true, Bool.or_eq_true, Bool.not_eq_true', Bool.not_eq_false', Bool.and_eq_false_iff, Bool.or_eq_false_iff, decide_eq_true_eq, decide_eq_false_iff_not, Int.not_lt, Int.not_le, ne_eq, Decidable.not_not] at h3
        have hwk := hok.way i (by omega) k (by omega)
        have hwt := hok.wt i (by omega)
        have hml := mul_bd hwt.1 hwt.2 hwk.2.1 hwk.2.2
        refine WC.skip ?_
        refine QX.then_ ?_
        refine WC.seq ?_
        refine WC.block ?_
        refine WC.seq ?_
        refine WC.region ?_
        refine SL.pure rfl rfl rfl (PureOp.move rfl) ?_
        refine SL.pure rfl rfl rfl (PureOp.move rfl) ?_
        refine SL.pure rfl rfl rfl (PureOp.indexAddrN Try.underlying43 sz55 rfl rfl (AoOk.in_ sL) (fun _ => by first | omega | (rw [cellsOf_length encEd_len, sdK_len2]; show _ + 4 ≤ _; omega))) ?_
        refine SL.pure rfl rfl rfl (PureOp.fieldAddr 2 Try.underlying55 rfl rfl sz53 rfl) ?_
        refine SL.pure rfl rfl rfl (PureOp.load (v := .slice ((nth l i).2.2.ao) ((nth l i).2.2.l.length) ((nth l i).2.2.cap)) Try.underlying53 rfl rfl (fun _ => (CellIs.in_ sL i 2 (by first | omega | (rw [cellsOf_length encEd_len, sdK_len2]; show _ + 4 ≤ _; omega)) (by omega)))) ?_
        refine SL.pure rfl rfl rfl (PureOp.move rfl) ?_
        refine SL.pure rfl rfl rfl (PureOp.indexAddrN Try.underlying53 sz77 rfl rfl (AoOk.any (fun w hw => (hI i (by omega)).below hw.below)) (fun _ => by first | omega | (rw [cellsOf_length encEd_len, sdK_len2]; show _ + 4 ≤ _; omega))) ?_
        refine SL.pure rfl rfl rfl (PureOp.loads (vs := [.int .i64 ((nth ((nth l i).2.2.l) k).1), .int .i64 ((nth ((nth l i).2.2.l) k).2)]) Try.underlying77 rfl rfl (fun _ => (RowIs.any (fun w hw => (hI i (by omega)).below hw.below) k 0 2 (by first | omega | (rw [cellsOf_length encEd_len, sdK_len2]; show _ + 4 ≤ _; omega)) (by omega))) sz77) ?_
        refine SL.alloc rfl rfl zero77 (fun b2 hb2 => ?_)
        refine SL.norm [_, _, _] rfl ?_
        refine SL.store 2 rfl rfl rfl rfl sz77 rfl rfl ?_
        refine SL.norm [_, _, _] rfl ?_
        refine SL.nil_then ?_
        refine WC.seq ?_
        refine WC.quiet rfl (by kernel_rfl) ?_
        refine SQ.pure rfl rfl rfl (PureOp.move rfl) ?_
        refine SQ.pure rfl rfl rfl (PureOp.move rfl) ?_
        refine SQ.pure rfl rfl rfl (PureOp.indexAddrN Try.underlying43 sz55 rfl rfl (AoOk.in_ sL) (fun _ => by first | omega | (rw [cellsOf_length encEd_len, sdK_len2]; show _ + 4 ≤ _; omega))) ?_
        refine SQ.pure rfl rfl rfl (PureOp.fieldAddr 1 Try.underlying55 rfl rfl sz3 rfl) ?_
        refine SQ.pure rfl rfl rfl (PureOp.load (v := .int .i64 ((nth l i).2.1)) Try.underlying3 rfl rfl (fun _ => (CellIs.in_ sL i 1 (by first | omega | (rw [cellsOf_length encEd_len, sdK_len2]; show _ + 4 ≤ _; omega)) (by omega)))) ?_
        refine SQ.pure rfl rfl rfl (PureOp.fieldAddrT 1 Try.underlying77 rfl sz3 rfl rfl) ?_
        refine SQ.pure rfl rfl rfl (PureOp.load (v := .int .i64 ((nth ((nth l i).2.2.l) k).2)) Try.underlying3 rfl rfl (fun _ => (CellIs.cells 2 rfl rfl))) ?_
        refine SQ.pure rfl rfl rfl (PureOp.mul rfl rfl (fun _ => by first | omega | (rw [cellsOf_length encEd_len, sdK_len2]; show _ + 4 ≤ _; omega))) ?_
        refine SQ.pure rfl rfl rfl (PureOp.move rfl) ?_
        refine SQ.pure rfl rfl rfl (PureOp.fieldAddrT 0 Try.underlying77 rfl sz3 rfl rfl) ?_
        refine SQ.pure rfl rfl rfl (PureOp.load (v := .int .i64 ((nth ((nth l i).2.2.l) k).1)) Try.underlying3 rfl rfl (fun _ => (CellIs.cells 2 rfl rfl))) ?_
        refine SQ.pure rfl rfl rfl (PureOp.indexAddr Try.underlying82 sz85 rfl rfl AoOk.lit (fun _ => by first | omega | (rw [cellsOf_length encEd_len, sdK_len2]; show _ + 4 ≤ _; omega))) ?_
        refine SQ.pure rfl rfl rfl (PureOp.fieldAddr 0 Try.underlying85 rfl rfl sz3 rfl) ?_
        refine SQ.pure rfl rfl rfl (PureOp.load (v := .int .i64 ((nth (sdK l i (sdI l (lfX l P) (rch0 q) i) k) (((nth ((nth l i).2.2.l) k).1).toNat)).1)) Try.underlying3 rfl rfl (fun _ => (CellIs.ownc 0 rfl (((nth ((nth l i).2.2.l) k).1).toNat) 0 (by exact encEd_get (by rw [sdK_len2]; omega) (by decide))))) ?_
        refine SQ.pure rfl rfl rfl (PureOp.lss rfl rfl) ?_
        refine SQ.nil_then ?_
        refine WC.cond rfl (fun h4 => ?_) (fun h4 => ?_)
        · try simp only [Bool.and_eq_true, Bool.or_eq_true, Bool.not_eq_true', Bool.not_eq_false', Bool.and_eq_false_iff, Bool.or_eq_false_iff, decide_eq_true_eq, decide_eq_false_iff_not, Int.not_lt, Int.not_le, ne_eq, Decidable.not_not] at h4
          refine WC.drawh ([Item.triv, Item.own w0.heap.size fa m fc 3 1 (cellsOf encI (lfL l P m)), Item.cells b2 [.int .i64 ((nth ((nth l i).2.2.l) k).1), .int .i64 ((nth ((nth l i).2.2.l) k).2)] 77]) 16 [false, false, false, false, false, false, false, false, false, false, false, false, false, false, false, false] rfl rfl rfl ?_
          refine SD.take 0 [true, false, false, false, false, false, false, false, false, false, false, false, false, false, false, false] rfl (by kernel_rfl) rfl (fun _ h => (HeapOk.settriv h (i := 0) rfl)) rfl rfl rfl (PureOp.move rfl) ?_
          refine SD.take 1 [true, true, false, false, false, false, false, false, false, false, false, false, false, false, false, false] rfl (by kernel_rfl) rfl (fun _ h => (HeapOk.settriv h (i := 0) rfl)) rfl rfl rfl (PureOp.fieldAddrT 0 Try.underlying77 rfl sz3 rfl rfl) ?_
          refine SD.take 2 [true, true, true, false, false, false, false, false, false, false, false, false, false, false, false, false] rfl (by kernel_rfl) rfl (fun _ h => (HeapOk.settriv h (i := 0) rfl)) rfl rfl rfl (PureOp.load (v := .int .i64 ((nth ((nth l i).2.2.l) k).1)) Try.underlying3 rfl rfl (fun _ => (CellIs.cells 2 rfl rfl))) ?_
          refine SD.take 3 [true, true, true, true, false, false, false, false, false, false, false, false, false, false, false, false] rfl (by kernel_rfl) rfl (fun _ h => (HeapOk.settriv h (i := 0) rfl)) rfl rfl rfl (PureOp.move rfl) ?_
          refine SD.take 4 [true, true, true, true, true, false, false, false, false, false, false, false, false, false, false, false] rfl (by kernel_rfl) rfl (fun _ h => (HeapOk.settriv h (i := 0) rfl)) rfl rfl rfl (PureOp.move rfl) ?_
          refine SD.take 5 [true, true, true, true, true, true, false, false, false, false, false, false, false, false, false, false] rfl (by kernel_rfl) rfl (fun _ h => (HeapOk.settriv h (i := 0) rfl)) rfl rfl rfl (PureOp.indexAddrN Try.underlying43 sz55 rfl rfl (AoOk.in_ sL) (fun _ => by first | omega | (rw [cellsOf_length encEd_len, sdK_len2]; show _ + 4 ≤ _; omega))) ?_
          refine SD.take 6 [true, true, true, true, true, true, true, false, false, false, false, false, false, false, false, false] rfl (by kernel_rfl) rfl (fun _ h => (HeapOk.settriv h (i := 0) rfl)) rfl rfl rfl (PureOp.fieldAddr 1 Try.underlying55 rfl rfl sz3 rfl) ?_
          refine SD.take 7 [true, true, true, true, true, true, true, true, false, false, false, false, false, false, false, false] rfl (by kernel_rfl) rfl (fun _ h => (HeapOk.settriv h (i := 0) rfl)) rfl rfl rfl (PureOp.load (v := .int .i64 ((nth l i).2.1)) Try.underlying3 rfl rfl (fun _ => (CellIs.in_ sL i 1 (by first | omega | (rw [cellsOf_length encEd_len, sdK_len2]; show _ + 4 ≤ _; omega)) (by omega)))) ?_
          refine SD.take 8 [true, true, true, true, true, true, true, true, true, false, false, false, false, false, false, false] rfl (by kernel_rfl) rfl (fun _ h => (HeapOk.settriv h (i := 0) rfl)) rfl rfl rfl (PureOp.fieldAddrT 1 Try.underlying77 rfl sz3 rfl rfl) ?_
          refine SD.take 9 [true, true, true, true, true, true, true, true, true, true, false, false, false, false, false, false] rfl (by kernel_rfl) rfl (fun _ h => (HeapOk.settriv h (i := 0) rfl)) rfl rfl rfl (PureOp.load (v := .int .i64 ((nth ((nth l i).2.2.l) k).2)) Try.underlying3 rfl rfl (fun _ => (CellIs.cells 2 rfl rfl))) ?_
          refine SD.take 10 [true, true, true, true, true, true, true, true, true, true, true, false, false, false, false, false] rfl (by kernel_rfl) rfl (fun _ h => (HeapOk.settriv h (i := 0) rfl)) rfl rfl rfl (PureOp.mul rfl rfl (fun _ => by first | omega | (rw [cellsOf_length encEd_len, sdK_len2]; show _ + 4 ≤ _; omega))) ?_
          refine SD.take 11 [true, true, true, true, true, true, true, true, true, true, true, true, false, false, false, false] rfl (by kernel_rfl) rfl (fun _ h => (HeapOk.settriv h (i := 0) rfl)) rfl rfl rfl (PureOp.move rfl) ?_
          refine SD.take 12 [true, true, true, true, true, true, true, true, true, true, true, true, true, false, false, false] rfl (by kernel_rfl) rfl (fun _ h => (HeapOk.settriv h (i := 0) rfl)) rfl rfl rfl (PureOp.move rfl) ?_
          refine SD.take 13 [true, true, true, true, true, true, true, true, true, true, true, true, true, true, false, false] rfl (by kernel_rfl) rfl (fun _ h => (HeapOk.settriv h (i := 0) rfl)) rfl rfl rfl (PureOp.build bld85 rfl rfl) ?_
          refine SD.take 14 [true, true, true, true, true, true, true, true, true, true, true, true, true, true, true, false] rfl (by kernel_rfl) rfl (fun _ h => (HeapOk.settriv h (i := 0) rfl)) rfl rfl rfl (PureOp.indexAddr Try.underlying82 sz85 rfl rfl AoOk.lit (fun _ => by first | omega | (rw [cellsOf_length encEd_len, sdK_len2]; show _ + 4 ≤ _; omega))) ?_
          refine SD.one 15 [true, true, true, true, true, true, true, true, true, true, true, true, true, true, true, true] (by kernel_rfl) rfl rfl ?_
          refine SL.storerow (k := (((nth ((nth l i).2.2.l) k).1).toNat)) (j := 0) 0 rfl rfl rfl rfl sz85 (by first | omega | (rw [cellsOf_length encEd_len, sdK_len2]; show _ + 4 ≤ _; omega)) rfl ?_
          refine SL.itemxs 0 rfl (show _ = cellsOf encEd (sdK l i (sdI l (lfX l P) (rch0 q) i) (k + 1)) from by rw [sdK_on (by omega)]; exact encEd_row (o := sdK l i (sdI l (lfX l P) (rch0 q) i) k) (k := (nth (nth l i).2.2.l k).1.toNat) (x := ((nth l i).2.1 * (nth (nth l i).2.2.l k).2, (i : Int), (k : Int), -1)) (by rw [sdK_len2]; omega)) ?_
          refine SL.norm [_, _, _] rfl ?_
          refine SD.back (fun _ h => (HeapOk.settriv h (i := 0) rfl)) ?_
          refine SD.done (by kernel_rfl) ?_
          refine QX.ofK ?_
          refine QX.normal_in ?_
          refine QX.then_ ?_
          refine WC.region ?_
          refine SL.pure rfl rfl rfl (PureOp.move rfl) ?_
          refine SL.pure rfl rfl rfl (PureOp.addN (k := 1) rfl rfl (fun _ => by first | omega | (rw [cellsOf_length encEd_len, sdK_len2]; show _ + 4 ≤ _; omega))) ?_
          refine SL.pure rfl rfl rfl (PureOp.assign rfl) ?_
          refine SL.nil ?_
          refine QX.round 2 (k + 1) ⟨⟨(by first | omega | (dsimp only; omega)), .inl (by omega)⟩, by first | omega | (dsimp only; omega)⟩ ⟨rfl, rfl, rfl, rfl, rfl, rfl, rfl, rfl, rfl, rfl, rfl, rfl, rfl, rfl, rfl, rfl, rfl, rfl, rfl, rfl, rfl, rfl, rfl, rfl, rfl, rfl, rfl, rfl, rfl, rfl, rfl, rfl, rfl, rfl, rfl, rfl, rfl, rfl, rfl, rfl, rfl, rfl, rfl, rfl, rfl, rfl, trivial⟩ rfl
        · try simp only [Bool.and_eq_true, Bool.or_eq_true, Bool.not_eq_true', Bool.not_eq_false', Bool.and_eq_false_iff, Bool.or_eq_false_iff, decide_eq_true_eq, decide_eq_false_iff_not, Int.not_lt, Int.not_le, ne_eq, Decidable.not_not] at h4
          refine WC.skip ?_
          refine QX.normal_in ?_
          refine QX.then_ ?_
          refine WC.region ?_
          refine SL.pure rfl rfl rfl (PureOp.move rfl) ?_
          refine SL.pure rfl rfl rfl (PureOp.addN (k := 1) rfl rfl (fun _ => by first | omega | (rw [cellsOf_length encEd_len, sdK_len2]; show _ + 4 ≤ _; omega))) ?_
          refine SL.pure rfl rfl rfl (PureOp.assign rfl) ?_
          refine SL.nil ?_
          refine QX.round 2 (k + 1) ⟨⟨(by first | omega | (dsimp only; omega)), .inl (by omega)⟩, by first | omega | (dsimp only; omega)⟩ ⟨rfl, rfl, rfl, rfl, rfl, rfl, rfl, rfl, rfl, rfl, rfl, rfl, rfl, rfl, rfl, rfl, rfl, rfl, rfl, rfl, rfl, rfl, rfl, rfl, rfl, rfl, rfl, rfl, rfl, rfl, rfl, rfl, rfl, rfl, rfl, rfl, rfl, rfl, rfl, rfl, rfl, rfl, rfl, rfl, rfl, rfl, trivial⟩ (by rw [sdK_off (by omega)]; rfl)
      · try simp only [Bool.and_eq_true, Bool.or_eq_true, Bool.not_eq_true', Bool.not_eq_false', Bool.and_eq_false_iff, Bool.or_eq_false_iff, decide_eq_true_eq, decide_eq_false_iff_not, Int.not_lt, Int.not_le, ne_eq, Decidable.not_not] at h3
        refine WC.exit ?_
        refine QX.exit_then ?_
        refine QX.exit_then ?_
        refine QX.exit_hit ?_
        refine QX.normal_in ?_
        refine QX.then_ ?_
        refine WC.region ?_
        refine SL.pure rfl rfl rfl (PureOp.move rfl) ?_
        refine SL.pure rfl rfl rfl (PureOp.addN (k := 1) rfl rfl (fun _ => by first | omega | (rw [cellsOf_length encEd_len, sdK_len2]; show _ + 4 ≤ _; omega))) ?_
        refine SL.pure rfl rfl rfl (PureOp.assign rfl) ?_
        refine SL.nil ?_
        refine QX.round 2 (i + 1) ⟨(by first | omega | (dsimp only; omega)), by first | omega | (dsimp only; omega)⟩ ⟨rfl, rfl, rfl, rfl, rfl, rfl, rfl, rfl, rfl, rfl, rfl, rfl, rfl, rfl, rfl, rfl, rfl, rfl, rfl, rfl, rfl, rfl, rfl, rfl, rfl, rfl, rfl, rfl, rfl, rfl, rfl, rfl, rfl, rfl, rfl, rfl, trivial⟩ (by rw [sdI_next (k := k) (by rw [← hlf]; unfold wyX; omega) (by rw [← hlf]; omega)]; rfl)
    · try simp only [Bool.and_eq_true, Bool.or_eq_true, Bool.not_eq_true', Bool.not_eq_false', Bool.and_eq_false_iff, Bool.or_eq_false_iff, decide_eq_true_eq, decide_eq_false_iff_not, Int.not_lt, Int.not_le, ne_eq, Decidable.not_not] at h2
      have e_ : i = m := by omega
      subst i
      refine WC.exit ?_
      refine QX.exit_then ?_
      refine QX.exit_then ?_
      refine QX.exit_hit ?_
      refine QX.then_ ?_
      refine WC.seq ?_
      refine WC.seq ?_
      refine WC.region ?_
      refine SL.pure rfl rfl rfl (PureOp.assign rfl) ?_
      refine SL.nil_then ?_
      refine WC.block ?_
      refine WC.loop (σ := Nat) (fun q_ => [(0, 0, .slice la m lc), (1, 0, .slice ca q cc), (2, 0, .slice pa u pc), (6, 0, .slice none 0 0), (7, 0, .slice (some ⟨b1, 0, none⟩) q q), (8, 0, .int .i64 ((q : Nat) : Int)), (9, 0, .slice fa m fc), (10, 0, .int .i64 ((m : Nat) : Int)), (15, 0, .slice ca q cc), (16, 0, .int .i64 ((q : Nat) : Int)), (17, 0, .slice (some ⟨b1, 0, none⟩) q q), (18, 0, .int .i64 ((q : Nat) : Int)), (19, 0, .slice (some ⟨b1, 0, none⟩) q q), (20, 0, .int .i64 ((q : Nat) : Int)), (21, 0, .bool (decide (((q : Nat) : Int) < ((q : Nat) : Int)))), (28, 0, .slice la m lc), (29, 0, .slice pa u pc), (30, 0, .slice fa m fc), (31, 0, .int .i64 ((m : Nat) : Int)), (32, 0, .slice la m lc), (33, 0, .int .i64 ((m : Nat) : Int)), (34, 0, .bool (decide (((m : Nat) : Int) < ((m : Nat) : Int)))), (13, 0, .int .i64 ((q_ : Nat) : Int))]) (fun q_ => [Item.own w0.heap.size (some ⟨b1, 0, none⟩) q q 85 4 (cellsOf encEd (mvR l P m (sdI l (lfX l P) (rch0 q) m) q_)), Item.own w0.heap.size fa m fc 3 1 (cellsOf encI (lfL l P m))]) (fun q_ => q_ ≤ q) (fun q_ => q - q_) 2 (0) (Nat.zero_le _) ⟨rfl, rfl, rfl, rfl, rfl, rfl, rfl, rfl, rfl, rfl, rfl, rfl, rfl, rfl, rfl, rfl, rfl, rfl, rfl, rfl, rfl, rfl, rfl, rfl, rfl, rfl, rfl, rfl, rfl, rfl, rfl, rfl, rfl, rfl, rfl, rfl, rfl, rfl, rfl, rfl, rfl, rfl, rfl, rfl, rfl, rfl, trivial⟩ rfl ?_
      rintro n hn
      refine WC.seq ?_
      refine WC.seq ?_
      refine WC.region ?_
      refine SL.pure rfl rfl rfl (PureOp.move rfl) ?_
      refine SL.pure rfl rfl rfl (PureOp.move rfl) ?_
      refine SL.pure rfl rfl rfl (PureOp.len rfl Try.underlying29) ?_
      refine SL.pure rfl rfl rfl (PureOp.lss rfl rfl) ?_
      refine SL.nil_then ?_
      refine WC.cond rfl (fun h5 => ?_) (fun h5 => ?_)
      · try simp only [Bool.and_eq_true, Bool.or_eq_true, Bool.not_eq_true', Bool.not_eq_false', Bool.and_eq_false_iff, Bool.or_eq_false_iff, decide_eq_true_eq, decide_eq_false_iff_not, Int.not_lt, Int.not_le, ne_eq, Decidable.not_not] at h5
        refine WC.skip ?_
        refine QX.then_ ?_
        refine WC.seq ?_
        refine WC.block ?_
        refine WC.seq ?_
        refine WC.region ?_
        refine SL.pure rfl rfl rfl (PureOp.assign rfl) ?_
        refine SL.nil_then ?_
        refine WC.block ?_
        refine WC.loop (σ := Nat) (fun q_ => [(0, 0, .slice la m lc), (1, 0, .slice ca q cc), (2, 0, .slice pa u pc), (6, 0, .slice none 0 0), (7, 0, .slice (some ⟨b1, 0, none⟩) q q), (8, 0, .int .i64 ((q : Nat) : Int)), (9, 0, .slice fa m fc), (10, 0, .int .i64 ((m : Nat) : Int)), (13, 0, .int .i64 ((n : Nat) : Int)), (15, 0, .slice ca q cc), (16, 0, .int .i64 ((q : Nat) : Int)), (17, 0, .slice (some ⟨b1, 0, none⟩) q q), (18, 0, .int .i64 ((q : Nat) : Int)), (19, 0, .slice (some ⟨b1, 0, none⟩) q q), (20, 0, .int .i64 ((q : Nat) : Int)), (21, 0, .bool (decide (((q : Nat) : Int) < ((q : Nat) : Int)))), (28, 0, .slice la m lc), (29, 0, .slice pa u pc), (30, 0, .slice fa m fc), (31, 0, .int .i64 ((m : Nat) : Int)), (32, 0, .slice la m lc), (33, 0, .int .i64 ((m : Nat) : Int)), (34, 0, .bool (decide (((m : Nat) : Int) < ((m : Nat) : Int)))), (92, 0, .int .i64 ((n : Nat) : Int)), (93, 0, .slice ca q cc), (94, 0, .int .i64 ((q : Nat) : Int)), (95, 0, .bool (decide (((n : Nat) : Int) < ((q : Nat) : Int)))), (14, 0, .int .i64 ((q_ : Nat) : Int))]) (fun q_ => [Item.own w0.heap.size (some ⟨b1, 0, none⟩) q q 85 4 (cellsOf encEd (mvI l P (mvR l P m (sdI l (lfX l P) (rch0 q) m) n) q_)), Item.own w0.heap.size fa m fc 3 1 (cellsOf encI (lfL l P m))]) (fun q_ => q_ ≤ m) (fun q_ => m - q_) 2 (0) (Nat.zero_le _) ⟨rfl, rfl, rfl, rfl, rfl, rfl, rfl, rfl, rfl, rfl, rfl, rfl, rfl, rfl, rfl, rfl, rfl, rfl, rfl, rfl, rfl, rfl, rfl, rfl, rfl, rfl, rfl, rfl, rfl, rfl, rfl, rfl, rfl, rfl, rfl, rfl, rfl, rfl, rfl, rfl, rfl, rfl, rfl, rfl, rfl, rfl, rfl, rfl, rfl, rfl, rfl, rfl, rfl, rfl, rfl, rfl, trivial⟩ rfl ?_
        rintro i hi
        refine WC.seq ?_
        refine WC.seq ?_
        refine WC.region ?_
        refine SL.pure rfl rfl rfl (PureOp.move rfl) ?_
        refine SL.pure rfl rfl rfl (PureOp.move rfl) ?_
        refine SL.pure rfl rfl rfl (PureOp.len rfl Try.underlying43) ?_
        refine SL.pure rfl rfl rfl (PureOp.lss rfl rfl) ?_
        refine SL.nil_then ?_
        refine WC.cond rfl (fun h6 => ?_) (fun h6 => ?_)
        · try simp only [Bool.and_eq_true, Bool.or_eq_true, Bool.not_eq_true', Bool.not_eq_false', Bool.and_eq_false_iff, Bool.or_eq_false_iff, decide_eq_true_eq, decide_eq_false_iff_not, Int.not_lt, Int.not_le, ne_eq, Decidable.not_not] at h6
          have hbm : BdX c.length 1100000000000000 (mvI l P (mvR l P m (sdI l (lfX l P) (rch0 q) m) n) i) := by rw [hm, hq]; exact rch_bd hok hS2 (by omega) (by omega)
          refine WC.skip ?_
          refine QX.then_ ?_
          refine WC.seq ?_
          refine WC.block ?_
          refine WC.drawh ([Item.triv, Item.own w0.heap.size fa m fc 3 1 (cellsOf encI (lfL l P m))]) 11 [false, false, false, false, false, false, false, false, false, false, false] rfl rfl rfl ?_
          refine SD.take 0 [true, false, false, false, false, false, false, false, false, false, false] rfl (by kernel_rfl) rfl (fun _ h => (HeapOk.settriv h (i := 0) rfl)) rfl rfl rfl (PureOp.move rfl) ?_
          refine SD.take 1 [true, true, false, false, false, false, false, false, false, false, false] rfl (by kernel_rfl) rfl (fun _ h => (HeapOk.settriv h (i := 0) rfl)) rfl rfl rfl (PureOp.move rfl) ?_
          refine SD.take 2 [true, true, true, false, false, false, false, false, false, false, false] rfl (by kernel_rfl) rfl (fun _ h => (HeapOk.settriv h (i := 0) rfl)) rfl rfl rfl (PureOp.indexAddrN Try.underlying43 sz55 rfl rfl (AoOk.in_ sL) (fun _ => by first | omega | (rw [cellsOf_length encEd_len, sdK_len2]; show _ + 4 ≤ _; omega))) ?_
          refine SD.take 3 [true, true, true, true, false, false, false, false, false, false, false] rfl (by kernel_rfl) rfl (fun _ h => (HeapOk.settriv h (i := 0) rfl)) rfl rfl rfl (PureOp.loads (vs := [.int .i64 ((nth l i).1), .int .i64 ((nth l i).2.1), .slice ((nth l i).2.2.ao) ((nth l i).2.2.l.length) ((nth l i).2.2.cap)]) Try.underlying55 rfl rfl (fun _ => (RowIs.in_ sL i 0 3 (by first | omega | (rw [cellsOf_length encEd_len, sdK_len2]; show _ + 4 ≤ _; omega)) (by omega))) sz55) ?_
          refine SD.take 4 [true, true, true, true, true, false, false, false, false, false, false] rfl (by kernel_rfl) rfl (fun _ h => (HeapOk.settriv h (i := 0) rfl)) rfl rfl rfl (PureOp.move rfl) ?_
          refine SD.take 5 [true, true, true, true, true, true, false, false, false, false, false] rfl (by kernel_rfl) rfl (fun _ h => (HeapOk.settriv h (i := 0) rfl)) rfl rfl rfl (PureOp.move rfl) ?_
          refine SD.take 6 [true, true, true, true, true, true, true, false, false, false, false] rfl (by kernel_rfl) rfl (fun _ h => (HeapOk.settriv h (i := 0) rfl)) rfl rfl rfl (PureOp.move rfl) ?_
          refine SD.take 7 [true, true, true, true, true, true, true, true, false, false, false] rfl (by kernel_rfl) rfl (fun _ h => (HeapOk.settriv h (i := 0) rfl)) rfl rfl rfl (PureOp.indexAddrN Try.underlying44 sz29 rfl rfl (AoOk.in_ sP) (fun _ => by first | omega | (rw [cellsOf_length encEd_len, sdK_len2]; show _ + 4 ≤ _; omega))) ?_
          refine SD.take 8 [true, true, true, true, true, true, true, true, true, false, false] rfl (by kernel_rfl) rfl (fun _ h => (HeapOk.settriv h (i := 0) rfl)) rfl rfl rfl (PureOp.load (v := .slice ((nth P i).ao) ((nth P i).l.length) ((nth P i).cap)) Try.underlying29 rfl rfl (fun _ => (CellIs.in_ sP i 0 (by first | omega | (rw [cellsOf_length encEd_len, sdK_len2]; show _ + 4 ≤ _; omega)) (by omega)))) ?_
          refine SD.take 9 [true, true, true, true, true, true, true, true, true, true, false] rfl (by kernel_rfl) rfl (fun _ h => (HeapOk.settriv h (i := 0) rfl)) rfl rfl rfl (PureOp.move rfl) ?_
          refine SD.one 10 [true, true, true, true, true, true, true, true, true, true, true] (by kernel_rfl) rfl rfl ?_
          refine SL.callM [0] rfl rfl rfl rfl rfl rfl callable56 (by decide) (move52_ok w0 l c P i q q (some ⟨b1, 0, none⟩) (mvI l P (mvR l P m (sdI l (lfX l P) (rch0 q) m) n) i) hq (by omega) (hI i (by omega)) (hJ i (by omega)) hok hN hS2 hbm) rfl (fun _ _ => rfl) ?_
          rintro ⟨⟩ _
          refine SL.norm [_, _] rfl ?_
          refine SD.back (fun _ h => (HeapOk.settriv h (i := 0) rfl)) ?_
          refine SD.done (by kernel_rfl) ?_
          refine QX.ofK ?_
          refine QX.normal_in ?_
          refine QX.then_ ?_
          refine WC.region ?_
          refine SL.pure rfl rfl rfl (PureOp.move rfl) ?_
          refine SL.pure rfl rfl rfl (PureOp.addN (k := 1) rfl rfl (fun _ => by first | omega | (rw [cellsOf_length encEd_len, sdK_len2]; show _ + 4 ≤ _; omega))) ?_
          refine SL.pure rfl rfl rfl (PureOp.assign rfl) ?_
          refine SL.nil ?_
          refine QX.round 2 (i + 1) ⟨(by first | omega | (dsimp only; omega)), by first | omega | (dsimp only; omega)⟩ ⟨rfl, rfl, rfl, rfl, rfl, rfl, rfl, rfl, rfl, rfl, rfl, rfl, rfl, rfl, rfl, rfl, rfl, rfl, rfl, rfl, rfl, rfl, rfl, rfl, rfl, rfl, rfl, rfl, rfl, rfl, rfl, rfl, rfl, rfl, rfl, rfl, rfl, rfl, rfl, rfl, rfl, rfl, rfl, rfl, rfl, rfl, rfl, rfl, rfl, rfl, rfl, rfl, rfl, rfl, rfl, rfl, trivial⟩ rfl
        · try simp only [Bool.and_eq_true, Bool.or_eq_true, Bool.not_eq_true', Bool.not_eq_false', Bool.and_eq_false_iff, Bool.or_eq_false_iff, decide_eq_true_eq, decide_eq_false_iff_not, Int.not_lt, Int.not_le, ne_eq, Decidable.not_not] at h6
          have e_ : i = m := by omega
          subst i
          refine WC.exit ?_
          refine QX.exit_then ?_
          refine QX.exit_then ?_
          refine QX.exit_hit ?_
          refine QX.normal_in ?_
          refine QX.then_ ?_
          refine WC.region ?_
          refine SL.pure rfl rfl rfl (PureOp.move rfl) ?_
          refine SL.pure rfl rfl rfl (PureOp.addN (k := 1) rfl rfl (fun _ => by first | omega | (rw [cellsOf_length encEd_len, sdK_len2]; show _ + 4 ≤ _; omega))) ?_
          refine SL.pure rfl rfl rfl (PureOp.assign rfl) ?_
          refine SL.nil ?_
          refine QX.round 2 (n + 1) ⟨(by first | omega | (dsimp only; omega)), by first | omega | (dsimp only; omega)⟩ ⟨rfl, rfl, rfl, rfl, rfl, rfl, rfl, rfl, rfl, rfl, rfl, rfl, rfl, rfl, rfl, rfl, rfl, rfl, rfl, rfl, rfl, rfl, rfl, rfl, rfl, rfl, rfl, rfl, rfl, rfl, rfl, rfl, rfl, rfl, rfl, rfl, rfl, rfl, rfl, rfl, rfl, rfl, rfl, rfl, rfl, rfl, trivial⟩ rfl
      · try simp only [Bool.and_eq_true, Bool.or_eq_true, Bool.not_eq_true', Bool.not_eq_false', Bool.and_eq_false_iff, Bool.or_eq_false_iff, decide_eq_true_eq, decide_eq_false_iff_not, Int.not_lt, Int.not_le, ne_eq, Decidable.not_not] at h5
        have e_ : n = q := by omega
        subst n
        refine WC.exit ?_
        refine QX.exit_then ?_
        refine QX.exit_then ?_
        refine QX.exit_hit ?_
        refine QX.then_ ?_
        refine WC.seq ?_
        refine WC.region ?_
        refine SL.pure rfl rfl rfl (PureOp.move rfl) ?_
        refine SL.pure rfl rfl rfl (PureOp.assign rfl) ?_
        refine SL.nil_then ?_
        refine WC.ret ?_
        refine QX.ret1 rfl rfl ?_
        intro w hw
        exact ⟨_, q, rfl, hw.mem (i := 0) rfl⟩

end Go.Proofs.Ytngkbnaehkailaa

namespace Go.Proofs.Ytngkbnaehkailaa
open Go Go.RowKit Eng
set_option linter.unusedVariables false
set_option linter.unusedSimpArgs false

set_option maxHeartbeats 4000000 in
set_option maxRecDepth 100000 in
theorem rsolve52_bad (w0 : World) (l : List Pa) (la : Option Addr) (m lc : Nat) (hm : m = l.length) (hI : ∀ i, i < m → SliceIn w0 2 (nth l i).2.2.ao (nth l i).2.2.l.length (nth l i).2.2.cap (rowsF enc77 (nth l i).2.2.l)) (sL : SliceIn w0 3 la m lc (rowsF enc55 l)) (c : List Int) (ca : Option Addr) (q cc : Nat) (hq : q = c.length) (sC : SliceIn w0 1 ca q cc (rowsF encI c)) (hbad : rchk l c ≠ 0) : FnC Try.prog 33 [.slice la m lc, .slice ca q cc] w0 fun v w' => v = .tuple #[.slice none 0 0, .int .i64 (rchk l c)] := by
  refine fnc (N := 126) Try.func33 rfl rfl rfl ?_
  refine WC.seq ?_
  refine WC.region ?_
  refine SL.pure rfl rfl rfl (PureOp.assign rfl) ?_
  refine SL.pure rfl rfl rfl (PureOp.assign rfl) ?_
  refine SL.nil_then ?_
  refine WC.seq ?_
  refine WC.seq ?_
  refine WC.region ?_
  refine SL.pure rfl rfl rfl (PureOp.move rfl) ?_
  refine SL.pure rfl rfl rfl (PureOp.move rfl) ?_
  refine SL.calle rfl rfl rfl rfl rfl rfl callable30 (fun w hw => rcheck52_ok w l la m lc hm (fun i hi => (hI i hi).below hw.below) (sL.below hw.below) c ca q cc hq (sC.below hw.below)) ?_
  refine SL.norm [] rfl ?_
  refine SL.pure rfl rfl rfl (PureOp.neq rfl rfl) ?_
  refine SL.nil_then ?_
  refine WC.cond rfl (fun h1 => ?_) (fun h1 => ?_)
  · try simp only [Bool.and_eq_true, Bool.or_eq_true, Bool.not_eq_true', Bool.not_eq_false', Bool.and_eq_false_iff, Bool.or_eq_false_iff, decide_eq_true_eq, decide_eq_false_iff_not, Int.not_lt, Int.not_le, ne_eq, Decidable.not_not] at h1
    refine WC.seq ?_
    refine WC.region ?_
    refine SL.pure rfl rfl rfl (PureOp.move rfl) ?_
    refine SL.pure rfl rfl rfl (PureOp.move rfl) ?_
    refine SL.calle rfl rfl rfl rfl rfl rfl callable30 (fun w hw => rcheck52_ok w l la m lc hm (fun i hi => (hI i hi).below hw.below) (sL.below hw.below) c ca q cc hq (sC.below hw.below)) ?_
    refine SL.norm [] rfl ?_
    refine SL.pure rfl rfl rfl (PureOp.assign rfl) ?_
    refine SL.pure rfl rfl rfl (PureOp.assign rfl) ?_
    refine SL.nil_then ?_
    refine WC.ret ?_
    refine QX.ret_then ?_
    refine QX.ret2 rfl rfl rfl ?_
    intro w hw
    rfl
  · try simp only [Bool.and_eq_true, Bool.or_eq_true, Bool.not_eq_true', Bool.not_eq_false', Bool.and_eq_false_iff, Bool.or_eq_false_iff, decide_eq_true_eq, decide_eq_false_iff_not, Int.not_lt, Int.not_le, ne_eq, Decidable.not_not] at h1
    exact absurd h1 hbad

set_option maxHeartbeats 4000000 in
set_option maxRecDepth 100000 in
theorem rsolve52_ok (w0 : World) (l : List Pa) (la : Option Addr) (m lc : Nat) (hm : m = l.length) (hI : ∀ i, i < m → SliceIn w0 2 (nth l i).2.2.ao (nth l i).2.2.l.length (nth l i).2.2.cap (rowsF enc77 (nth l i).2.2.l)) (sL : SliceIn w0 3 la m lc (rowsF enc55 l)) (c : List Int) (ca : Option Addr) (q cc : Nat) (hq : q = c.length) (sC : SliceIn w0 1 ca q cc (rowsF encI c)) (hck : rchk l c = 0) (hS : wayS l m ≤ 1024) : FnC Try.prog 33 [.slice la m lc, .slice ca q cc] w0 fun v w' => ∃ a cap R, v = .tuple #[.slice a m cap, .int .i64 0] ∧ RawOk l c R ∧ (∃ πT πi πv, PPot l c R πT πi πv) ∧ bsX l c R < 0 ∧ (ofam w0.heap.size a m cap (R.map frow)).ok w' := by
  have hok := PaOk.of hck
  have hnl := hok.nl
  have hnc := hok.nc
  have hS2 : wayS l l.length ≤ 1024 := by rw [← hm]; exact hS
  refine fnc (N := 126) Try.func33 rfl rfl rfl ?_
  refine WC.seq ?_
  refine WC.region ?_
  refine SL.pure rfl rfl rfl (PureOp.assign rfl) ?_
  refine SL.pure rfl rfl rfl (PureOp.assign rfl) ?_
  refine SL.nil_then ?_
  refine WC.seq ?_
  refine WC.seq ?_
  refine WC.region ?_
  refine SL.pure rfl rfl rfl (PureOp.move rfl) ?_
  refine SL.pure rfl rfl rfl (PureOp.move rfl) ?_
  refine SL.calle rfl rfl rfl rfl rfl rfl callable30 (fun w hw => rcheck52_ok w l la m lc hm (fun i hi => (hI i hi).below hw.below) (sL.below hw.below) c ca q cc hq (sC.below hw.below)) ?_
  refine SL.norm [] rfl ?_
  refine SL.pure rfl rfl rfl (PureOp.neq rfl rfl) ?_
  refine SL.nil_then ?_
  refine WC.cond rfl (fun h1 => ?_) (fun h1 => ?_)
  · try simp only [Bool.and_eq_true, Bool.or_eq_true, Bool.not_eq_true', Bool.not_eq_false', Bool.and_eq_false_iff, Bool.or_eq_false_iff, decide_eq_true_eq, decide_eq_false_iff_not, Int.not_lt, Int.not_le, ne_eq, Decidable.not_not] at h1
    exact absurd hck h1
  · try simp only [Bool.and_eq_true, Bool.or_eq_true, Bool.not_eq_true', Bool.not_eq_false', Bool.and_eq_false_iff, Bool.or_eq_false_iff, decide_eq_true_eq, decide_eq_false_iff_not, Int.not_lt, Int.not_le, ne_eq, Decidable.not_not] at h1
    refine WC.skip ?_
    refine QX.then_ ?_
    refine WC.seq ?_
    refine WC.region ?_
    refine SL.addnil 29 1 ?_
    refine SL.heap (fun w hw => HeapOk.famNew hw w0.heap.size 3 1) ?_
    refine SL.pure rfl rfl rfl (PureOp.assign rfl) ?_
    refine SL.nil_then ?_
    refine WC.seq ?_
    refine WC.seq ?_
    refine WC.region ?_
    refine SL.pure rfl rfl rfl (PureOp.assign rfl) ?_
    refine SL.nil_then ?_
    refine WC.block ?_
    refine WC.loop (σ := Nat × List (SliceV Int) × Option Addr × Nat) (fun q_ => [(0, 0, .slice la m lc), (1, 0, .slice ca q cc), (4, 0, .slice none 0 0), (5, 0, .int .i64 0), (13, 0, .slice la m lc), (14, 0, .slice ca q cc), (15, 0, .int .i64 (rchk l c)), (16, 0, .bool (decide (rchk l c ≠ 0))), (7, 0, .int .i64 ((q_.1 : Nat) : Int)), (6, 0, .slice q_.2.2.1 q_.1 q_.2.2.2)]) (fun q_ => [Item.own w0.heap.size q_.2.2.1 q_.1 q_.2.2.2 29 1 (((q_.2.1).map frow).map FRow.val), Item.fam w0.heap.size 3 1 ((q_.2.1).map frow)]) (fun q_ => q_.1 ≤ m ∧ ZRow l q_.2.1 q_.1) (fun q_ => m - q_.1) 2 ((0, [], none, 0)) (⟨Nat.zero_le _, ZRow.nil⟩) ⟨rfl, rfl, rfl, rfl, rfl, rfl, rfl, rfl, rfl, rfl, rfl, rfl, rfl, rfl, rfl, rfl, rfl, rfl, rfl, rfl, trivial⟩ rfl ?_
    rintro ⟨t, P, a, ca_⟩ ⟨ht, hz⟩
    try dsimp only at *
    refine WC.seq ?_
    refine WC.seq ?_
    refine WC.region ?_
    refine SL.pure rfl rfl rfl (PureOp.move rfl) ?_
    refine SL.pure rfl rfl rfl (PureOp.move rfl) ?_
    refine SL.pure rfl rfl rfl (PureOp.len rfl Try.underlying43) ?_
    refine SL.pure rfl rfl rfl (PureOp.lss rfl rfl) ?_
    refine SL.nil_then ?_
    refine WC.cond rfl (fun h2 => ?_) (fun h2 => ?_)
    · try simp only [Bool.and_eq_true, Bool.or_eq_true, Bool.not_eq_true', Bool.not_eq_false', Bool.and_eq_false_iff, Bool.or_eq_false_iff, decide_eq_true_eq, decide_eq_false_iff_not, Int.not_lt, Int.not_le, ne_eq, Decidable.not_not] at h2
      have hwl := way_le hS2 (i := t) (by omega)
      refine WC.skip ?_
      refine QX.then_ ?_
      refine WC.seq ?_
      refine WC.block ?_
      refine WC.region ?_
      refine SL.pure rfl rfl rfl (PureOp.move rfl) ?_
      refine SL.pure rfl rfl rfl (PureOp.move rfl) ?_
      refine SL.pure rfl rfl rfl (PureOp.move rfl) ?_
      refine SL.pure rfl rfl rfl (PureOp.indexAddrN Try.underlying43 sz55 rfl rfl (AoOk.in_ sL) (fun _ => by omega)) ?_
      refine SL.pure rfl rfl rfl (PureOp.fieldAddr 2 Try.underlying55 rfl rfl sz53 rfl) ?_
      refine SL.pure rfl rfl rfl (PureOp.load (v := .slice ((nth l t).2.2.ao) ((nth l t).2.2.l.length) ((nth l t).2.2.cap)) Try.underlying53 rfl rfl (fun _ => (CellIs.in_ sL t 2 (by omega) (by omega)))) ?_
      refine SL.pure rfl rfl rfl (PureOp.len rfl Try.underlying53) ?_
      refine SL.make rfl rfl Try.underlying29 elem3 rfl rfl (by omega) (by omega) (fun b1 hb1 => ?_)
      refine SL.itemxs 2 rfl (show _ = cellsOf encI (List.replicate (nth l t).2.2.l.length 0) from by rw [rep_int]) ?_
      refine SL.norm [_, _, _] rfl ?_
      refine SL.buildSlice rfl rfl Try.underlying44 elem29 rfl rfl rfl rfl (fun b2 hb2 => ?_)
      refine SL.norm [_, _, _, _] rfl ?_
      refine SL.append 0 rfl rfl Try.underlying44 elem29 rfl rfl rfl rfl (SrcIs.own 3 rfl) (by rfl) (by omega) (by omega) (fun ao1_ cap1_ => ?_)
      refine SL.norm [_, _, _, _] rfl ?_
      refine SL.addnil 29 1 ?_
      refine SL.heap (fun w hw => HeapOk.famNew hw w0.heap.size 3 1) ?_
      refine SL.pure rfl rfl rfl (PureOp.assign rfl) ?_
      refine SL.nil ?_
      refine QX.normal_in ?_
      refine QX.then_ ?_
      refine WC.region ?_
      refine SL.pure rfl rfl rfl (PureOp.move rfl) ?_
      refine SL.pure rfl rfl rfl (PureOp.addN (k := 1) rfl rfl (fun _ => by omega)) ?_
      refine SL.pure rfl rfl rfl (PureOp.assign rfl) ?_
      refine SL.nil ?_
      refine QX.heap (fun w hw => HeapOk.famAdd hw 1 2 rfl rfl rfl) ?_
      refine QX.round (σ := Nat × List (SliceV Int) × Option Addr × Nat) (Ef := fun q_ => [(0, 0, .slice la m lc), (1, 0, .slice ca q cc), (4, 0, .slice none 0 0), (5, 0, .int .i64 0), (13, 0, .slice la m lc), (14, 0, .slice ca q cc), (15, 0, .int .i64 (rchk l c)), (16, 0, .bool (decide (rchk l c ≠ 0))), (7, 0, .int .i64 ((q_.1 : Nat) : Int)), (6, 0, .slice q_.2.2.1 q_.1 q_.2.2.2)]) (Hf := fun q_ => [Item.own w0.heap.size q_.2.2.1 q_.1 q_.2.2.2 29 1 (((q_.2.1).map frow).map FRow.val), Item.fam w0.heap.size 3 1 ((q_.2.1).map frow)]) (I := fun q_ => q_.1 ≤ m ∧ ZRow l q_.2.1 q_.1) (μ := fun q_ => m - q_.1) (s := (t, P, a, ca_)) 2 ((t + 1, P ++ [(⟨some ⟨b1, 0, none⟩, (nth l t).2.2.l.length, List.replicate (nth l t).2.2.l.length 0⟩ : SliceV Int)], ao1_, cap1_)) ⟨⟨(by first | omega | (dsimp only; omega)), (by exact hz.snoc)⟩, by first | omega | (dsimp only; omega)⟩ ?_ ?_
      · exact ⟨rfl, rfl, rfl, rfl, rfl, rfl, rfl, rfl, rfl, rfl, rfl, rfl, rfl, rfl, rfl, rfl, rfl, rfl, rfl, rfl, trivial⟩
      · exact (by rw [List.map_append, List.map_append, List.map_cons, List.map_nil, frow_rep]; rfl)
    · try simp only [Bool.and_eq_true, Bool.or_eq_true, Bool.not_eq_true', Bool.not_eq_false', Bool.and_eq_false_iff, Bool.or_eq_false_iff, decide_eq_true_eq, decide_eq_false_iff_not, Int.not_lt, Int.not_le, ne_eq, Decidable.not_not] at h2
      have e_ : t = m := by omega
      subst t
      have hz0 : ZeroP l P := ZRow.zero (by rw [← hm]; exact hz)
      have ht0 := hz0.tot l.length (Nat.le_refl _)
      obtain ⟨R, hSl, hRr, hRp, hRb⟩ := solved hok hS2 ((peoT l l.length).toNat + 1) P (hz0.raw hok) ⟨_, _, _, hz0.pot hok⟩ (by rw [ht0]; omega)
      refine WC.exit ?_
      refine QX.exit_then ?_
      refine QX.exit_then ?_
      refine QX.exit_hit ?_
      refine QX.then_ ?_
      refine WC.block ?_
      refine WC.loop (σ := Nat × List (SliceV Int)) (fun q_ => [(0, 0, .slice la m lc), (1, 0, .slice ca q cc), (6, 0, .slice a m ca_), (7, 0, .int .i64 ((m : Nat) : Int)), (13, 0, .slice la m lc), (14, 0, .slice ca q cc), (15, 0, .int .i64 (rchk l c)), (16, 0, .bool (decide (rchk l c ≠ 0))), (20, 0, .int .i64 ((m : Nat) : Int)), (21, 0, .slice la m lc), (22, 0, .int .i64 ((m : Nat) : Int)), (23, 0, .bool (decide (((m : Nat) : Int) < ((m : Nat) : Int))))]) (fun q_ => [Item.own w0.heap.size a m ca_ 29 1 (((q_.2).map frow).map FRow.val), Item.fam w0.heap.size 3 1 ((q_.2).map frow)]) (fun q_ => SlvN l c q_.1 q_.2 R) (fun q_ => q_.1) 2 (((peoT l l.length).toNat + 1, P)) (hSl) ⟨rfl, rfl, rfl, rfl, rfl, rfl, rfl, rfl, rfl, rfl, rfl, rfl, rfl, rfl, rfl, rfl, rfl, rfl, rfl, rfl, rfl, rfl, rfl, rfl, trivial⟩ rfl ?_
      rintro ⟨n, Q⟩ hSn
      try dsimp only at *
      obtain ⟨n1, rfl⟩ : ∃ k, n = k + 1 := by
        cases n with
        | zero => exact hSn.elim
        | succ k => exact ⟨k, rfl⟩
      obtain ⟨hRo, hSn⟩ := hSn
      have hQn := hRo.nums hok
      have hQm : m = Q.length := by rw [hRo.sh.len, hm]
      have hbs : bsX l c Q = bestX (rcX l c Q) (rmX l c Q) q := by unfold bsX; rw [hq]
      refine WC.block ?_
      refine WC.seq ?_
      refine WC.region ?_
      refine SL.pure rfl rfl rfl (PureOp.move rfl) ?_
      refine SL.pure rfl rfl rfl (PureOp.move rfl) ?_
      refine SL.pure rfl rfl rfl (PureOp.move rfl) ?_
      refine SL.callo (fun ra rc => .slice ra q rc) rfl rfl rfl rfl rfl rfl callable52 (fun w hw => rroom52_ok w l la m lc hm (fun i hi => (hI i hi).below hw.below) (sL.below hw.below) c ca q cc hq (sC.below hw.below) Q a m ca_ hQm (frow_inner hQm (hw.mem (i := 1) rfl)) (frow_outer hQm (hw.mem (i := 0) rfl)) hok hQn hS) (fun ra rc => ?_)
      refine SL.norm [_, _, _] rfl ?_
      refine SL.pure rfl rfl rfl (PureOp.move rfl) ?_
      refine SL.pure rfl rfl rfl (PureOp.move rfl) ?_
      refine SL.pure rfl rfl rfl (PureOp.move rfl) ?_
      refine SL.callo (fun ea ec => .slice ea q ec) rfl rfl rfl rfl rfl rfl callable53 (fun w hw => rreach52_ok w l la m lc hm (fun i hi => (hI i hi).below hw.below) (sL.below hw.below) c ca q cc hq (sC.below hw.below) Q a m ca_ hQm (frow_inner hQm (hw.mem (i := 1) rfl)) (frow_outer hQm (hw.mem (i := 0) rfl)) hok hQn hS) (fun ea ec => ?_)
      refine SL.norm [_, _, _, _] rfl ?_
      refine SL.pure rfl rfl rfl (PureOp.assign rfl) ?_
      refine SL.pure rfl rfl rfl (PureOp.assign rfl) ?_
      refine SL.nil_then ?_
      refine WC.seq ?_
      refine WC.region ?_
      refine SL.pure rfl rfl rfl (PureOp.assign rfl) ?_
      refine SL.nil_then ?_
      refine WC.seq ?_
      refine WC.seq ?_
      refine WC.region ?_
      refine SL.pure rfl rfl rfl (PureOp.assign rfl) ?_
      refine SL.nil_then ?_
      refine WC.block ?_
      refine WC.loop (σ := Nat) (fun q_ => [(0, 0, .slice la m lc), (1, 0, .slice ca q cc), (6, 0, .slice a m ca_), (7, 0, .int .i64 ((m : Nat) : Int)), (8, 0, .slice ra q rc), (9, 0, .slice ea q ec), (13, 0, .slice la m lc), (14, 0, .slice ca q cc), (15, 0, .int .i64 (rchk l c)), (16, 0, .bool (decide (rchk l c ≠ 0))), (20, 0, .int .i64 ((m : Nat) : Int)), (21, 0, .slice la m lc), (22, 0, .int .i64 ((m : Nat) : Int)), (23, 0, .bool (decide (((m : Nat) : Int) < ((m : Nat) : Int)))), (36, 0, .slice la m lc), (37, 0, .slice ca q cc), (38, 0, .slice a m ca_), (39, 0, .slice ra q rc), (40, 0, .slice la m lc), (41, 0, .slice ca q cc), (42, 0, .slice a m ca_), (43, 0, .slice ea q ec), (11, 0, .int .i64 ((q_ : Nat) : Int)), (10, 0, .int .i64 (bestX (rcX l c Q) (rmX l c Q) q_))]) (fun q_ => [Item.own w0.heap.size a m ca_ 29 1 (((Q).map frow).map FRow.val), Item.fam w0.heap.size 3 1 ((Q).map frow), Item.own w0.heap.size ra q rc 3 1 (cellsOf encI (rmI l Q c m)), Item.own w0.heap.size ea q ec 85 4 (cellsOf encEd (rchX l Q m q (lfX l Q)))]) (fun q_ => q_ ≤ q) (fun q_ => q - q_) 4 (0) (Nat.zero_le _) ⟨rfl, rfl, rfl, rfl, rfl, rfl, rfl, rfl, rfl, rfl, rfl, rfl, rfl, rfl, rfl, rfl, rfl, rfl, rfl, rfl, rfl, rfl, rfl, rfl, rfl, rfl, rfl, rfl, rfl, rfl, rfl, rfl, rfl, rfl, rfl, rfl, rfl, rfl, rfl, rfl, rfl, rfl, rfl, rfl, rfl, rfl, rfl, rfl, trivial⟩ rfl ?_
      rintro v hv
      refine WC.seq ?_
      refine WC.seq ?_
      refine WC.region ?_
      refine SL.pure rfl rfl rfl (PureOp.move rfl) ?_
      refine SL.pure rfl rfl rfl (PureOp.move rfl) ?_
      refine SL.pure rfl rfl rfl (PureOp.len rfl Try.underlying29) ?_
      refine SL.pure rfl rfl rfl (PureOp.lss rfl rfl) ?_
      refine SL.nil_then ?_
      refine WC.cond rfl (fun h3 => ?_) (fun h3 => ?_)
      · try simp only [Bool.and_eq_true, Bool.or_eq_true, Bool.not_eq_true', Bool.not_eq_false', Bool.and_eq_false_iff, Bool.or_eq_false_iff, decide_eq_true_eq, decide_eq_false_iff_not, Int.not_lt, Int.not_le, ne_eq, Decidable.not_not] at h3
        have hbl := best_lt (o := rcX l c Q) (r := rmX l c Q) v
        refine WC.skip ?_
        refine QX.then_ ?_
        refine WC.seq ?_
        refine WC.block ?_
        refine WC.seq ?_
        refine WC.quiet rfl (by kernel_rfl) ?_
        refine SQ.pure rfl rfl rfl (PureOp.move rfl) ?_
        refine SQ.pure rfl rfl rfl (PureOp.move rfl) ?_
        refine SQ.pure rfl rfl rfl (PureOp.indexAddrN Try.underlying29 sz3 rfl rfl (AoOk.own 2 rfl) (fun _ => by omega)) ?_
        refine SQ.pure rfl rfl rfl (PureOp.load (v := .int .i64 (rmX l c Q v)) Try.underlying3 rfl rfl (fun _ => (CellIs.ownc 2 rfl v 0 (by exact rm_get hok hQn hm (by omega))))) ?_
        refine SQ.pure rfl rfl rfl (PureOp.gtr rfl rfl) ?_
        refine SQ.pure rfl rfl rfl (PureOp.move rfl) ?_
        refine SQ.newg 55 true rfl ?_
        refine SQ.gpure (c := 1) rfl rfl rfl rfl rfl rfl rfl (PureOp.move rfl) ?_
        refine SQ.gpure (c := 1) rfl rfl rfl rfl rfl rfl rfl (PureOp.move rfl) ?_
        refine SQ.gpure (c := 1) rfl rfl rfl rfl rfl rfl rfl (PureOp.indexAddrN Try.underlying82 sz85 rfl rfl (AoOk.own 3 rfl) (by intro hg; simp [gval] at hg; omega)) ?_
        refine SQ.gpure (c := 1) rfl rfl rfl rfl rfl rfl rfl (PureOp.fieldAddr 0 Try.underlying85 rfl rfl sz3 rfl) ?_
        refine SQ.gpure (c := 1) rfl rfl rfl rfl rfl rfl rfl (PureOp.load (v := .int .i64 ((nth (rcX l c Q) v).1)) Try.underlying3 rfl rfl (by intro hg; simp [gval] at hg; exact (CellIs.ownc 3 rfl v 0 (by exact rc_get hm hq (by omega) (by decide))))) ?_
        refine SQ.gpure (c := 1) rfl rfl rfl rfl rfl rfl rfl (PureOp.lss rfl rfl) ?_
        refine SQ.pure rfl rfl rfl (PureOp.and_ rfl rfl rfl rfl) ?_
        refine SQ.pure rfl rfl rfl (PureOp.move rfl) ?_
        refine SQ.newg 63 true rfl ?_
        refine SQ.gpure (c := 2) rfl rfl rfl rfl rfl rfl rfl (PureOp.move rfl) ?_
        refine SQ.gpure (c := 2) rfl rfl rfl rfl rfl rfl rfl (PureOp.lss rfl rfl) ?_
        refine SQ.gpure (c := 2) rfl rfl rfl rfl rfl rfl rfl (PureOp.move rfl) ?_
        refine SQ.newg 66 false rfl ?_
        refine SQ.gpure (c := 3) rfl rfl rfl rfl rfl rfl rfl (PureOp.move rfl) ?_
        refine SQ.gpure (c := 3) rfl rfl rfl rfl rfl rfl rfl (PureOp.move rfl) ?_
        refine SQ.gpure (c := 3) rfl rfl rfl rfl rfl rfl rfl (PureOp.indexAddrN Try.underlying82 sz85 rfl rfl (AoOk.own 3 rfl) (by intro hg; simp [gval] at hg; omega)) ?_
        refine SQ.gpure (c := 3) rfl rfl rfl rfl rfl rfl rfl (PureOp.fieldAddr 0 Try.underlying85 rfl rfl sz3 rfl) ?_
        refine SQ.gpure (c := 3) rfl rfl rfl rfl rfl rfl rfl (PureOp.load (v := .int .i64 ((nth (rcX l c Q) v).1)) Try.underlying3 rfl rfl (by intro hg; simp [gval] at hg; exact (CellIs.ownc 3 rfl v 0 (by exact rc_get hm hq (by omega) (by decide))))) ?_
        refine SQ.gpure (c := 3) rfl rfl rfl rfl rfl rfl rfl (PureOp.move rfl) ?_
        refine SQ.gpure (c := 3) rfl rfl rfl rfl rfl rfl rfl (PureOp.move rfl) ?_
        refine SQ.gpure (c := 3) rfl rfl rfl rfl rfl rfl rfl (PureOp.indexAddr Try.underlying82 sz85 rfl rfl (AoOk.own 3 rfl) (by intro hg; simp [gval] at hg; omega)) ?_
        refine SQ.gpure (c := 3) rfl rfl rfl rfl rfl rfl rfl (PureOp.fieldAddr 0 Try.underlying85 rfl rfl sz3 rfl) ?_
        refine SQ.gpure (c := 3) rfl rfl rfl rfl rfl rfl rfl (PureOp.load (v := .int .i64 ((nth (rcX l c Q) ((bestX (rcX l c Q) (rmX l c Q) v).toNat)).1)) Try.underlying3 rfl rfl (by intro hg; simp [gval] at hg; exact (CellIs.ownc 3 rfl ((bestX (rcX l c Q) (rmX l c Q) v).toNat) 0 (by exact rc_get hm hq (by omega) (by decide))))) ?_
        refine SQ.gpure (c := 3) rfl rfl rfl rfl rfl rfl rfl (PureOp.lss rfl rfl) ?_
        refine SQ.gpure (c := 2) rfl rfl rfl rfl rfl rfl rfl (PureOp.or_ rfl rfl rfl rfl) ?_
        refine SQ.pure rfl rfl rfl (PureOp.and_ rfl rfl rfl rfl) ?_
        refine SQ.nil_then ?_
        refine WC.cond rfl (fun h4 => ?_) (fun h4 => ?_)
        · try simp only [Bool.and_eq_true, Bool.or_eq_true, Bool.not_eq_true', Bool.not_eq_false', Bool.and_eq_false_iff, Bool.or_eq_false_iff, decide_eq_true_eq, decide_eq_false_iff_not, Int.not_lt, Int.not_le, ne_eq, Decidable.not_not] at h4
          refine WC.region ?_
          refine SL.pure rfl rfl rfl (PureOp.move rfl) ?_
          refine SL.pure rfl rfl rfl (PureOp.assign rfl) ?_
          refine SL.nil ?_
          refine QX.normal_in ?_
          refine QX.then_ ?_
          refine WC.region ?_
          refine SL.pure rfl rfl rfl (PureOp.move rfl) ?_
          refine SL.pure rfl rfl rfl (PureOp.addN (k := 1) rfl rfl (fun _ => by omega)) ?_
          refine SL.pure rfl rfl rfl (PureOp.assign rfl) ?_
          refine SL.nil ?_
          refine QX.round 4 (v + 1) ⟨(by first | omega | (dsimp only; omega)), by first | omega | (dsimp only; omega)⟩ ?_ ?_
          · exact (by rw [best_on (by omega) (by omega) (by omega)]; exact ⟨rfl, rfl, rfl, rfl, rfl, rfl, rfl, rfl, rfl, rfl, rfl, rfl, rfl, rfl, rfl, rfl, rfl, rfl, rfl, rfl, rfl, rfl, rfl, rfl, rfl, rfl, rfl, rfl, rfl, rfl, rfl, rfl, rfl, rfl, rfl, rfl, rfl, rfl, rfl, rfl, rfl, rfl, rfl, rfl, rfl, rfl, rfl, rfl, trivial⟩)
          · exact rfl
        · try simp only [Bool.and_eq_true, Bool.or_eq_true, Bool.not_eq_true', Bool.not_eq_false', Bool.and_eq_false_iff, Bool.or_eq_false_iff, decide_eq_true_eq, decide_eq_false_iff_not, Int.not_lt, Int.not_le, ne_eq, Decidable.not_not] at h4
          refine WC.skip ?_
          refine QX.normal_in ?_
          refine QX.then_ ?_
          refine WC.region ?_
          refine SL.pure rfl rfl rfl (PureOp.move rfl) ?_
          refine SL.pure rfl rfl rfl (PureOp.addN (k := 1) rfl rfl (fun _ => by omega)) ?_
          refine SL.pure rfl rfl rfl (PureOp.assign rfl) ?_
          refine SL.nil ?_
          refine QX.round 4 (v + 1) ⟨(by first | omega | (dsimp only; omega)), by first | omega | (dsimp only; omega)⟩ ?_ ?_
          · exact (by rw [best_off (by intros; omega)]; exact ⟨rfl, rfl, rfl, rfl, rfl, rfl, rfl, rfl, rfl, rfl, rfl, rfl, rfl, rfl, rfl, rfl, rfl, rfl, rfl, rfl, rfl, rfl, rfl, rfl, rfl, rfl, rfl, rfl, rfl, rfl, rfl, rfl, rfl, rfl, rfl, rfl, rfl, rfl, rfl, rfl, rfl, rfl, rfl, rfl, rfl, rfl, rfl, rfl, trivial⟩)
          · exact rfl
      · try simp only [Bool.and_eq_true, Bool.or_eq_true, Bool.not_eq_true', Bool.not_eq_false', Bool.and_eq_false_iff, Bool.or_eq_false_iff, decide_eq_true_eq, decide_eq_false_iff_not, Int.not_lt, Int.not_le, ne_eq, Decidable.not_not] at h3
        have e_ : v = q := by omega
        subst v
        refine WC.exit ?_
        refine QX.exit_then ?_
        refine QX.exit_then ?_
        refine QX.exit_hit ?_
        refine QX.then_ ?_
        refine WC.seq ?_
        refine WC.seq ?_
        refine WC.region ?_
        refine SL.pure rfl rfl rfl (PureOp.move rfl) ?_
        refine SL.pure rfl rfl rfl (PureOp.lss rfl rfl) ?_
        refine SL.nil_then ?_
        refine WC.cond rfl (fun h5 => ?_) (fun h5 => ?_)
        · try simp only [Bool.and_eq_true, Bool.or_eq_true, Bool.not_eq_true', Bool.not_eq_false', Bool.and_eq_false_iff, Bool.or_eq_false_iff, decide_eq_true_eq, decide_eq_false_iff_not, Int.not_lt, Int.not_le, ne_eq, Decidable.not_not] at h5
          refine WC.seq ?_
          refine WC.region ?_
          refine SL.pure rfl rfl rfl (PureOp.move rfl) ?_
          refine SL.pure rfl rfl rfl (PureOp.assign rfl) ?_
          refine SL.pure rfl rfl rfl (PureOp.assign rfl) ?_
          refine SL.nil_then ?_
          refine WC.ret ?_
          refine QX.ret_then ?_
          refine QX.ret_in ?_
          refine QX.ret_then ?_
          refine QX.ret_in ?_
          refine QX.ret2 rfl rfl rfl ?_
          intro w hw
          rcases hSn with ⟨hb2, hRQ⟩ | ⟨hb2, _⟩
          · exact ⟨a, ca_, Q, rfl, hRo, hRQ ▸ hRp, hRQ ▸ hRb, hw.mem (i := 0) rfl, hw.mem (i := 1) rfl⟩
          · exact absurd hb2 (by omega)
        · try simp only [Bool.and_eq_true, Bool.or_eq_true, Bool.not_eq_true', Bool.not_eq_false', Bool.and_eq_false_iff, Bool.or_eq_false_iff, decide_eq_true_eq, decide_eq_false_iff_not, Int.not_lt, Int.not_le, ne_eq, Decidable.not_not] at h5
          obtain ⟨hb2, K, G, hK, hG⟩ := hSn.resolve_left (fun z => absurd z.1 (by omega))
          refine WC.skip ?_
          refine QX.then_ ?_
          refine WC.block ?_
          refine WC.loop (σ := Nat × Int × List (SliceV Int)) (fun q_ => [(0, 0, .slice la m lc), (1, 0, .slice ca q cc), (6, 0, .slice a m ca_), (7, 0, .int .i64 ((m : Nat) : Int)), (8, 0, .slice ra q rc), (9, 0, .slice ea q ec), (11, 0, .int .i64 ((q : Nat) : Int)), (13, 0, .slice la m lc), (14, 0, .slice ca q cc), (15, 0, .int .i64 (rchk l c)), (16, 0, .bool (decide (rchk l c ≠ 0))), (20, 0, .int .i64 ((m : Nat) : Int)), (21, 0, .slice la m lc), (22, 0, .int .i64 ((m : Nat) : Int)), (23, 0, .bool (decide (((m : Nat) : Int) < ((m : Nat) : Int)))), (36, 0, .slice la m lc), (37, 0, .slice ca q cc), (38, 0, .slice a m ca_), (39, 0, .slice ra q rc), (40, 0, .slice la m lc), (41, 0, .slice ca q cc), (42, 0, .slice a m ca_), (43, 0, .slice ea q ec), (44, 0, .int .i64 ((q : Nat) : Int)), (45, 0, .slice ca q cc), (46, 0, .int .i64 ((q : Nat) : Int)), (47, 0, .bool (decide (((q : Nat) : Int) < ((q : Nat) : Int)))), (81, 0, .int .i64 (bestX (rcX l c Q) (rmX l c Q) q)), (82, 0, .bool (decide (bestX (rcX l c Q) (rmX l c Q) q < 0))), (10, 0, .int .i64 q_.2.1)]) (fun q_ => [Item.own w0.heap.size a m ca_ 29 1 (((q_.2.2).map frow).map FRow.val), Item.fam w0.heap.size 3 1 ((q_.2.2).map frow), Item.own w0.heap.size ra q rc 3 1 (cellsOf encI (rmI l Q c m)), Item.own w0.heap.size ea q ec 85 4 (cellsOf encEd (rchX l Q m q (lfX l Q)))]) (fun q_ => trX l m q (rcX l c Q) q_.1 q_.2.1 q_.2.2 = some G ∧ ShX l q_.2.2 m) (fun q_ => q_.1) 4 ((K, bestX (rcX l c Q) (rmX l c Q) q, Q)) (⟨by dsimp only; rw [← hbs, hm, hq]; exact hK, by dsimp only; rw [hm]; exact hRo.sh⟩) ⟨rfl, rfl, rfl, rfl, rfl, rfl, rfl, rfl, rfl, rfl, rfl, rfl, rfl, rfl, rfl, rfl, rfl, rfl, rfl, rfl, rfl, rfl, rfl, rfl, rfl, rfl, rfl, rfl, rfl, rfl, rfl, rfl, rfl, rfl, rfl, rfl, rfl, rfl, rfl, rfl, rfl, rfl, rfl, rfl, rfl, rfl, rfl, rfl, rfl, rfl, rfl, rfl, rfl, rfl, rfl, rfl, rfl, rfl, rfl, rfl, trivial⟩ rfl ?_
          rintro ⟨Kt, x, Z⟩ ⟨htr, hsh⟩
          try dsimp only at *
          obtain ⟨K1, rfl⟩ : ∃ k, Kt = k + 1 := by
            cases Kt with
            | zero => exact absurd htr (by simp [trX])
            | succ k => exact ⟨k, rfl⟩
          rw [trX] at htr
          refine WC.seq ?_
          refine WC.seq ?_
          refine WC.region ?_
          refine SL.pure rfl rfl rfl (PureOp.move rfl) ?_
          refine SL.pure rfl rfl rfl (PureOp.geq rfl rfl) ?_
          refine SL.nil_then ?_
          refine WC.cond rfl (fun h6 => ?_) (fun h6 => ?_)
          · try simp only [Bool.and_eq_true, Bool.or_eq_true, Bool.not_eq_true', Bool.not_eq_false', Bool.and_eq_false_iff, Bool.or_eq_false_iff, decide_eq_true_eq, decide_eq_false_iff_not, Int.not_lt, Int.not_le, ne_eq, Decidable.not_not] at h6
            rw [if_neg (by omega)] at htr
            have hg : trG l m q (rcX l c Q) Z x := Decidable.byContradiction fun z => by rw [if_neg z] at htr; cases htr
            rw [if_pos hg] at htr
            obtain ⟨g1, ⟨g2, g3⟩, ⟨g4, g5⟩, g6, g7, g8⟩ := hg
            unfold pX at g7 g8
            have hrl : (nth Z (nth (rcX l c Q) x.toNat).2.1.toNat).l.length = (nth l (nth (rcX l c Q) x.toNat).2.1.toNat).2.2.l.length := hsh.row ((nth (rcX l c Q) x.toNat).2.1.toNat) (by omega)
            have hZl := hsh.len
            unfold wyX at g5 g6
            have hf4 : nth (Z.map frow) ((nth (rcX l c Q) x.toNat).2.1.toNat) = frow (nth Z (nth (rcX l c Q) x.toNat).2.1.toNat) := frow_nth (by omega)
            refine WC.heap (fun w hw => HeapOk.famTake hw 1 ((nth (rcX l c Q) x.toNat).2.1.toNat) rfl rfl (by rw [List.length_map]; omega)) ?_
            rw [show (nth (Z.map frow) ((nth (rcX l c Q) x.toNat).2.1.toNat)).ao = (nth Z (nth (rcX l c Q) x.toNat).2.1.toNat).ao from by rw [hf4]; rfl, show (nth (Z.map frow) ((nth (rcX l c Q) x.toNat).2.1.toNat)).n = (nth Z (nth (rcX l c Q) x.toNat).2.1.toNat).l.length from by rw [hf4]; rfl, show (nth (Z.map frow) ((nth (rcX l c Q) x.toNat).2.1.toNat)).cap = (nth Z (nth (rcX l c Q) x.toNat).2.1.toNat).cap from by rw [hf4]; rfl, show (nth (Z.map frow) ((nth (rcX l c Q) x.toNat).2.1.toNat)).xs = cellsOf encI (nth Z (nth (rcX l c Q) x.toNat).2.1.toNat).l from by rw [hf4]; rfl]
            refine WC.ownfacts 4 rfl (fun hcf hnn hxl => ?_)
            obtain ⟨g_, hg_⟩ : ∃ g, (nth Z (nth (rcX l c Q) x.toNat).2.1.toNat).ao = some ⟨g, 0, none⟩ := hnn.elim (fun h => by omega) id
            rw [hg_]
            refine WC.skip ?_
            refine QX.then_ ?_
            refine WC.block ?_
            refine WC.seq ?_
            refine WC.region ?_
            refine SL.pure rfl rfl rfl (PureOp.move rfl) ?_
            refine SL.pure rfl rfl rfl (PureOp.move rfl) ?_
            refine SL.pure rfl rfl rfl (PureOp.indexAddr Try.underlying82 sz85 rfl rfl (AoOk.own 3 rfl) (fun _ => by omega)) ?_
            refine SL.pure rfl rfl rfl (PureOp.loads (vs := [.int .i64 ((nth (rcX l c Q) ((x).toNat)).1), .int .i64 ((nth (rcX l c Q) ((x).toNat)).2.1), .int .i64 ((nth (rcX l c Q) ((x).toNat)).2.2.1), .int .i64 ((nth (rcX l c Q) ((x).toNat)).2.2.2)]) Try.underlying85 rfl rfl (fun _ => (RowIs.ownc 3 rfl ((x).toNat) 0 4 (rowsF encEd (rcX l c Q) x.toNat) (fun j hj => rc_get hm hq (by omega) (by omega)))) sz85) ?_
            refine SL.alloc rfl rfl zero85 (fun b3 hb3 => ?_)
            refine SL.norm [_, _, _, _, _, _] rfl ?_
            refine SL.store 5 rfl rfl rfl rfl sz85 rfl rfl ?_
            refine SL.norm [_, _, _, _, _, _] rfl ?_
            refine SL.nil_then ?_
            refine WC.seq ?_
            refine WC.drawh ([Item.own w0.heap.size a m ca_ 29 1 (((Z).map frow).map FRow.val), Item.fam w0.heap.size 3 1 ((Z.map frow).set ((nth (rcX l c Q) x.toNat).2.1.toNat) default), Item.own w0.heap.size ra q rc 3 1 (cellsOf encI (rmI l Q c m)), Item.own w0.heap.size ea q ec 85 4 (cellsOf encEd (rchX l Q m q (lfX l Q))), Item.triv, Item.cells b3 [.int .i64 ((nth (rcX l c Q) ((x).toNat)).1), .int .i64 ((nth (rcX l c Q) ((x).toNat)).2.1), .int .i64 ((nth (rcX l c Q) ((x).toNat)).2.2.1), .int .i64 ((nth (rcX l c Q) ((x).toNat)).2.2.2)] 85]) 12 [false, false, false, false, false, false, false, false, false, false, false, false] rfl rfl rfl ?_
            refine SD.take 0 [true, false, false, false, false, false, false, false, false, false, false, false] rfl (by kernel_rfl) rfl (fun _ h => (HeapOk.settriv h (i := 4) rfl)) rfl rfl rfl (PureOp.move rfl) ?_
            refine SD.take 1 [true, true, false, false, false, false, false, false, false, false, false, false] rfl (by kernel_rfl) rfl (fun _ h => (HeapOk.settriv h (i := 4) rfl)) rfl rfl rfl (PureOp.fieldAddrT 1 Try.underlying85 rfl sz3 rfl rfl) ?_
            refine SD.take 2 [true, true, true, false, false, false, false, false, false, false, false, false] rfl (by kernel_rfl) rfl (fun _ h => (HeapOk.settriv h (i := 4) rfl)) rfl rfl rfl (PureOp.load (v := .int .i64 ((nth (rcX l c Q) ((x).toNat)).2.1)) Try.underlying3 rfl rfl (fun _ => (CellIs.cells 5 rfl rfl))) ?_
            refine SD.take 3 [true, true, true, true, false, false, false, false, false, false, false, false] rfl (by kernel_rfl) rfl (fun _ h => (HeapOk.settriv h (i := 4) rfl)) rfl rfl rfl (PureOp.indexAddr Try.underlying44 sz29 rfl rfl (AoOk.own 0 rfl) (fun _ => by omega)) ?_
            refine SD.take 4 [true, true, true, true, true, false, false, false, false, false, false, false] rfl (by kernel_rfl) rfl (fun _ h => (HeapOk.settriv h (i := 4) rfl)) rfl rfl rfl (PureOp.load (v := .slice (some ⟨g_, 0, none⟩) ((nth Z (nth (rcX l c Q) x.toNat).2.1.toNat).l.length) ((nth Z (nth (rcX l c Q) x.toNat).2.1.toNat).cap)) Try.underlying29 rfl rfl (fun _ => (CellIs.ownc 0 rfl (((nth (rcX l c Q) ((x).toNat)).2.1).toNat) 0 (by rw [frow_get (by omega), hg_])))) ?_
            refine SD.take 5 [true, true, true, true, true, true, false, false, false, false, false, false] rfl (by kernel_rfl) rfl (fun _ h => (HeapOk.settriv h (i := 4) rfl)) rfl rfl rfl (PureOp.fieldAddrT 2 Try.underlying85 rfl sz3 rfl rfl) ?_
            refine SD.take 6 [true, true, true, true, true, true, true, false, false, false, false, false] rfl (by kernel_rfl) rfl (fun _ h => (HeapOk.settriv h (i := 4) rfl)) rfl rfl rfl (PureOp.load (v := .int .i64 ((nth (rcX l c Q) ((x).toNat)).2.2.1)) Try.underlying3 rfl rfl (fun _ => (CellIs.cells 5 rfl rfl))) ?_
            refine SD.take 7 [true, true, true, true, true, true, true, true, false, false, false, false] rfl (by kernel_rfl) rfl (fun _ h => (HeapOk.settriv h (i := 4) rfl)) rfl rfl rfl (PureOp.indexAddr Try.underlying29 sz3 rfl rfl AoOk.lit (fun _ => by omega)) ?_
            refine SD.one 8 [true, true, true, true, true, true, true, true, true, false, false, false] (by kernel_rfl) rfl rfl ?_
            refine SL.pure rfl rfl rfl (PureOp.load (v := .int .i64 (nth (nth Z (nth (rcX l c Q) x.toNat).2.1.toNat).l ((nth (rcX l c Q) x.toNat).2.2.1.toNat))) Try.underlying3 rfl rfl (fun _ => (CellIs.ownc 4 rfl (((nth (rcX l c Q) ((x).toNat)).2.2.1).toNat) 0 (by exact encI_get (by omega))))) ?_
            refine SD.back (fun _ h => (HeapOk.settriv h (i := 4) rfl)) ?_
            refine SD.take 9 [true, true, true, true, true, true, true, true, true, true, false, false] rfl (by kernel_rfl) rfl (fun _ h => (HeapOk.settriv h (i := 4) rfl)) rfl rfl rfl (PureOp.add rfl rfl (fun _ => by omega)) ?_
            refine SD.take 10 [true, true, true, true, true, true, true, true, true, true, true, false] rfl (by kernel_rfl) rfl (fun _ h => (HeapOk.settriv h (i := 4) rfl)) rfl rfl rfl (PureOp.indexAddr Try.underlying29 sz3 rfl rfl AoOk.lit (fun _ => by omega)) ?_
            refine SD.one 11 [true, true, true, true, true, true, true, true, true, true, true, true] (by kernel_rfl) rfl rfl ?_
            refine SL.storeown (k := (((nth (rcX l c Q) ((x).toNat)).2.2.1).toNat)) (j := 0) 4 rfl rfl rfl rfl sz3 (by rw [cellsOf_length encI_len]; first | omega | (rw [List.length_set]; omega)) rfl ?_
            refine SL.itemxs 4 rfl (show _ = cellsOf encI ((nth Z (nth (rcX l c Q) x.toNat).2.1.toNat).l.set ((nth (rcX l c Q) x.toNat).2.2.1.toNat) (nth (nth Z (nth (rcX l c Q) x.toNat).2.1.toNat).l ((nth (rcX l c Q) x.toNat).2.2.1.toNat) + 1)) from encI_set (by omega)) ?_
            refine SL.norm [_, _, _, _, _, _] rfl ?_
            refine SD.back (fun _ h => (HeapOk.settriv h (i := 4) rfl)) ?_
            refine SD.done (by kernel_rfl) ?_
            refine QX.ofK ?_
            refine QX.then_ ?_
            refine WC.seq ?_
            refine WC.region ?_
            refine SL.pure rfl rfl rfl (PureOp.assign rfl) ?_
            refine SL.nil_then ?_
            refine WC.seq ?_
            refine WC.region ?_
            refine SL.pure rfl rfl rfl (PureOp.fieldAddrT 3 Try.underlying85 rfl sz3 rfl rfl) ?_
            refine SL.pure rfl rfl rfl (PureOp.load (v := .int .i64 ((nth (rcX l c Q) ((x).toNat)).2.2.2)) Try.underlying3 rfl rfl (fun _ => (CellIs.cells 5 rfl rfl))) ?_
            refine SL.pure rfl rfl rfl (PureOp.geq rfl rfl) ?_
            refine SL.nil_then ?_
            refine WC.cond rfl (fun h7 => ?_) (fun h7 => ?_)
            · try simp only [Bool.and_eq_true, Bool.or_eq_true, Bool.not_eq_true', Bool.not_eq_false', Bool.and_eq_false_iff, Bool.or_eq_false_iff, decide_eq_true_eq, decide_eq_false_iff_not, Int.not_lt, Int.not_le, ne_eq, Decidable.not_not] at h7
              rw [if_pos (by omega)] at htr
              have g9 := g8 (by omega)
              have hst : nth ((nth Z (nth (rcX l c Q) x.toNat).2.1.toNat).l.set ((nth (rcX l c Q) x.toNat).2.2.1.toNat) (nth (nth Z (nth (rcX l c Q) x.toNat).2.1.toNat).l ((nth (rcX l c Q) x.toNat).2.2.1.toNat) + 1)) ((nth (rcX l c Q) x.toNat).2.2.2.toNat) = nth (nth Z (nth (rcX l c Q) x.toNat).2.1.toNat).l ((nth (rcX l c Q) x.toNat).2.2.2.toNat) := by rw [nth_set (by omega), if_neg (fun z => g9.1 z.symm)]
              refine WC.seq ?_
              refine WC.drawh ([Item.own w0.heap.size a m ca_ 29 1 (((Z).map frow).map FRow.val), Item.fam w0.heap.size 3 1 ((Z.map frow).set ((nth (rcX l c Q) x.toNat).2.1.toNat) default), Item.own w0.heap.size ra q rc 3 1 (cellsOf encI (rmI l Q c m)), Item.own w0.heap.size ea q ec 85 4 (cellsOf encEd (rchX l Q m q (lfX l Q))), Item.triv, Item.cells b3 [.int .i64 ((nth (rcX l c Q) ((x).toNat)).1), .int .i64 ((nth (rcX l c Q) ((x).toNat)).2.1), .int .i64 ((nth (rcX l c Q) ((x).toNat)).2.2.1), .int .i64 ((nth (rcX l c Q) ((x).toNat)).2.2.2)] 85]) 12 [false, false, false, false, false, false, false, false, false, false, false, false] rfl rfl rfl ?_
              refine SD.take 0 [true, false, false, false, false, false, false, false, false, false, false, false] rfl (by kernel_rfl) rfl (fun _ h => (HeapOk.settriv h (i := 4) rfl)) rfl rfl rfl (PureOp.move rfl) ?_
              refine SD.take 1 [true, true, false, false, false, false, false, false, false, false, false, false] rfl (by kernel_rfl) rfl (fun _ h => (HeapOk.settriv h (i := 4) rfl)) rfl rfl rfl (PureOp.fieldAddrT 1 Try.underlying85 rfl sz3 rfl rfl) ?_
              refine SD.take 2 [true, true, true, false, false, false, false, false, false, false, false, false] rfl (by kernel_rfl) rfl (fun _ h => (HeapOk.settriv h (i := 4) rfl)) rfl rfl rfl (PureOp.load (v := .int .i64 ((nth (rcX l c Q) ((x).toNat)).2.1)) Try.underlying3 rfl rfl (fun _ => (CellIs.cells 5 rfl rfl))) ?_
              refine SD.take 3 [true, true, true, true, false, false, false, false, false, false, false, false] rfl (by kernel_rfl) rfl (fun _ h => (HeapOk.settriv h (i := 4) rfl)) rfl rfl rfl (PureOp.indexAddr Try.underlying44 sz29 rfl rfl (AoOk.own 0 rfl) (fun _ => by omega)) ?_
              refine SD.take 4 [true, true, true, true, true, false, false, false, false, false, false, false] rfl (by kernel_rfl) rfl (fun _ h => (HeapOk.settriv h (i := 4) rfl)) rfl rfl rfl (PureOp.load (v := .slice (some ⟨g_, 0, none⟩) ((nth Z (nth (rcX l c Q) x.toNat).2.1.toNat).l.length) ((nth Z (nth (rcX l c Q) x.toNat).2.1.toNat).cap)) Try.underlying29 rfl rfl (fun _ => (CellIs.ownc 0 rfl (((nth (rcX l c Q) ((x).toNat)).2.1).toNat) 0 (by rw [frow_get (by omega), hg_])))) ?_
              refine SD.take 5 [true, true, true, true, true, true, false, false, false, false, false, false] rfl (by kernel_rfl) rfl (fun _ h => (HeapOk.settriv h (i := 4) rfl)) rfl rfl rfl (PureOp.fieldAddrT 3 Try.underlying85 rfl sz3 rfl rfl) ?_
              refine SD.take 6 [true, true, true, true, true, true, true, false, false, false, false, false] rfl (by kernel_rfl) rfl (fun _ h => (HeapOk.settriv h (i := 4) rfl)) rfl rfl rfl (PureOp.load (v := .int .i64 ((nth (rcX l c Q) ((x).toNat)).2.2.2)) Try.underlying3 rfl rfl (fun _ => (CellIs.cells 5 rfl rfl))) ?_
              refine SD.take 7 [true, true, true, true, true, true, true, true, false, false, false, false] rfl (by kernel_rfl) rfl (fun _ h => (HeapOk.settriv h (i := 4) rfl)) rfl rfl rfl (PureOp.indexAddr Try.underlying29 sz3 rfl rfl AoOk.lit (fun _ => by omega)) ?_
              refine SD.one 8 [true, true, true, true, true, true, true, true, true, false, false, false] (by kernel_rfl) rfl rfl ?_
              refine SL.pure rfl rfl rfl (PureOp.load (v := .int .i64 (nth ((nth Z (nth (rcX l c Q) x.toNat).2.1.toNat).l.set ((nth (rcX l c Q) x.toNat).2.2.1.toNat) (nth (nth Z (nth (rcX l c Q) x.toNat).2.1.toNat).l ((nth (rcX l c Q) x.toNat).2.2.1.toNat) + 1)) ((nth (rcX l c Q) x.toNat).2.2.2.toNat))) Try.underlying3 rfl rfl (fun _ => (CellIs.ownc 4 rfl (((nth (rcX l c Q) ((x).toNat)).2.2.2).toNat) 0 (by exact encI_get (by rw [List.length_set]; omega))))) ?_
              refine SD.back (fun _ h => (HeapOk.settriv h (i := 4) rfl)) ?_
              refine SD.take 9 [true, true, true, true, true, true, true, true, true, true, false, false] rfl (by kernel_rfl) rfl (fun _ h => (HeapOk.settriv h (i := 4) rfl)) rfl rfl rfl (PureOp.sub rfl rfl (fun _ => by omega)) ?_
              refine SD.take 10 [true, true, true, true, true, true, true, true, true, true, true, false] rfl (by kernel_rfl) rfl (fun _ h => (HeapOk.settriv h (i := 4) rfl)) rfl rfl rfl (PureOp.indexAddr Try.underlying29 sz3 rfl rfl AoOk.lit (fun _ => by omega)) ?_
              refine SD.one 11 [true, true, true, true, true, true, true, true, true, true, true, true] (by kernel_rfl) rfl rfl ?_
              refine SL.storeown (k := (((nth (rcX l c Q) ((x).toNat)).2.2.2).toNat)) (j := 0) 4 rfl rfl rfl rfl sz3 (by rw [cellsOf_length encI_len]; first | omega | (rw [List.length_set]; omega)) rfl ?_
              refine SL.itemxs 4 rfl (show _ = cellsOf encI (((nth Z (nth (rcX l c Q) x.toNat).2.1.toNat).l.set ((nth (rcX l c Q) x.toNat).2.2.1.toNat) (nth (nth Z (nth (rcX l c Q) x.toNat).2.1.toNat).l ((nth (rcX l c Q) x.toNat).2.2.1.toNat) + 1)).set ((nth (rcX l c Q) x.toNat).2.2.2.toNat) (nth ((nth Z (nth (rcX l c Q) x.toNat).2.1.toNat).l.set ((nth (rcX l c Q) x.toNat).2.2.1.toNat) (nth (nth Z (nth (rcX l c Q) x.toNat).2.1.toNat).l ((nth (rcX l c Q) x.toNat).2.2.1.toNat) + 1)) ((nth (rcX l c Q) x.toNat).2.2.2.toNat) + (-1))) from by rw [← Int.sub_eq_add_neg]; exact encI_set (by rw [List.length_set]; omega)) ?_
              refine SL.norm [_, _, _, _, _, _] rfl ?_
              refine SD.back (fun _ h => (HeapOk.settriv h (i := 4) rfl)) ?_
              refine SD.done (by kernel_rfl) ?_
              refine QX.ofK ?_
              refine QX.then_ ?_
              refine WC.quiet rfl (by kernel_rfl) ?_
              refine SQ.pure rfl rfl rfl (PureOp.move rfl) ?_
              refine SQ.pure rfl rfl rfl (PureOp.fieldAddrT 1 Try.underlying85 rfl sz3 rfl rfl) ?_
              refine SQ.pure rfl rfl rfl (PureOp.load (v := .int .i64 ((nth (rcX l c Q) ((x).toNat)).2.1)) Try.underlying3 rfl rfl (fun _ => (CellIs.cells 5 rfl rfl))) ?_
              refine SQ.pure rfl rfl rfl (PureOp.indexAddr Try.underlying43 sz55 rfl rfl (AoOk.in_ sL) (fun _ => by omega)) ?_
              refine SQ.pure rfl rfl rfl (PureOp.fieldAddr 2 Try.underlying55 rfl rfl sz53 rfl) ?_
              refine SQ.pure rfl rfl rfl (PureOp.load (v := .slice ((nth l (((nth (rcX l c Q) ((x).toNat)).2.1).toNat)).2.2.ao) ((nth l (((nth (rcX l c Q) ((x).toNat)).2.1).toNat)).2.2.l.length) ((nth l (((nth (rcX l c Q) ((x).toNat)).2.1).toNat)).2.2.cap)) Try.underlying53 rfl rfl (fun _ => (CellIs.in_ sL (((nth (rcX l c Q) ((x).toNat)).2.1).toNat) 2 (by omega) (by omega)))) ?_
              refine SQ.pure rfl rfl rfl (PureOp.fieldAddrT 3 Try.underlying85 rfl sz3 rfl rfl) ?_
              refine SQ.pure rfl rfl rfl (PureOp.load (v := .int .i64 ((nth (rcX l c Q) ((x).toNat)).2.2.2)) Try.underlying3 rfl rfl (fun _ => (CellIs.cells 5 rfl rfl))) ?_
              refine SQ.pure rfl rfl rfl (PureOp.indexAddr Try.underlying53 sz77 rfl rfl (AoOk.any (fun w hw => (hI (((nth (rcX l c Q) ((x).toNat)).2.1).toNat) (by omega)).below hw.below)) (fun _ => by omega)) ?_
              refine SQ.pure rfl rfl rfl (PureOp.fieldAddr 0 Try.underlying77 rfl rfl sz3 rfl) ?_
              refine SQ.pure rfl rfl rfl (PureOp.load (v := .int .i64 ((nth ((nth l (((nth (rcX l c Q) ((x).toNat)).2.1).toNat)).2.2.l) (((nth (rcX l c Q) ((x).toNat)).2.2.2).toNat)).1)) Try.underlying3 rfl rfl (fun _ => (CellIs.any (fun w hw => (hI (((nth (rcX l c Q) ((x).toNat)).2.1).toNat) (by omega)).below hw.below) (((nth (rcX l c Q) ((x).toNat)).2.2.2).toNat) 0 (by omega) (by omega)))) ?_
              refine SQ.pure rfl rfl rfl (PureOp.assign rfl) ?_
              refine SQ.nil ?_
              refine QX.normal_in ?_
              refine QX.heap (fun w hw => trace_put hw 1 4 ((nth (rcX l c Q) x.toNat).2.1.toNat) (Q := addP (addP Z ((nth (rcX l c Q) x.toNat).2.1.toNat) ((nth (rcX l c Q) x.toNat).2.2.1.toNat) 1) ((nth (rcX l c Q) x.toNat).2.1.toNat) ((nth (rcX l c Q) x.toNat).2.2.2.toNat) (-1)) rfl rfl rfl (by rw [addP2_put (by omega), hg_])) ?_
              refine QX.round (σ := Nat × Int × List (SliceV Int)) (Ef := fun q_ => [(0, 0, .slice la m lc), (1, 0, .slice ca q cc), (6, 0, .slice a m ca_), (7, 0, .int .i64 ((m : Nat) : Int)), (8, 0, .slice ra q rc), (9, 0, .slice ea q ec), (11, 0, .int .i64 ((q : Nat) : Int)), (13, 0, .slice la m lc), (14, 0, .slice ca q cc), (15, 0, .int .i64 (rchk l c)), (16, 0, .bool (decide (rchk l c ≠ 0))), (20, 0, .int .i64 ((m : Nat) : Int)), (21, 0, .slice la m lc), (22, 0, .int .i64 ((m : Nat) : Int)), (23, 0, .bool (decide (((m : Nat) : Int) < ((m : Nat) : Int)))), (36, 0, .slice la m lc), (37, 0, .slice ca q cc), (38, 0, .slice a m ca_), (39, 0, .slice ra q rc), (40, 0, .slice la m lc), (41, 0, .slice ca q cc), (42, 0, .slice a m ca_), (43, 0, .slice ea q ec), (44, 0, .int .i64 ((q : Nat) : Int)), (45, 0, .slice ca q cc), (46, 0, .int .i64 ((q : Nat) : Int)), (47, 0, .bool (decide (((q : Nat) : Int) < ((q : Nat) : Int)))), (81, 0, .int .i64 (bestX (rcX l c Q) (rmX l c Q) q)), (82, 0, .bool (decide (bestX (rcX l c Q) (rmX l c Q) q < 0))), (10, 0, .int .i64 q_.2.1)]) (Hf := fun q_ => [Item.own w0.heap.size a m ca_ 29 1 (((q_.2.2).map frow).map FRow.val), Item.fam w0.heap.size 3 1 ((q_.2.2).map frow), Item.own w0.heap.size ra q rc 3 1 (cellsOf encI (rmI l Q c m)), Item.own w0.heap.size ea q ec 85 4 (cellsOf encEd (rchX l Q m q (lfX l Q)))]) (I := fun q_ => trX l m q (rcX l c Q) q_.1 q_.2.1 q_.2.2 = some G ∧ ShX l q_.2.2 m) (μ := fun q_ => q_.1) (s := (K1 + 1, x, Z)) 4 ((K1, (nth (nth l ((nth (rcX l c Q) x.toNat).2.1.toNat)).2.2.l ((nth (rcX l c Q) x.toNat).2.2.2.toNat)).1, addP (addP Z ((nth (rcX l c Q) x.toNat).2.1.toNat) ((nth (rcX l c Q) x.toNat).2.2.1.toNat) 1) ((nth (rcX l c Q) x.toNat).2.1.toNat) ((nth (rcX l c Q) x.toNat).2.2.2.toNat) (-1))) ⟨⟨(by exact htr), (hsh.add (by omega)).add (by omega)⟩, by first | omega | (dsimp only; omega)⟩ ?_ ?_
              · exact ⟨rfl, rfl, rfl, rfl, rfl, rfl, rfl, rfl, rfl, rfl, rfl, rfl, rfl, rfl, rfl, rfl, rfl, rfl, rfl, rfl, rfl, rfl, rfl, rfl, rfl, rfl, rfl, rfl, rfl, rfl, rfl, rfl, rfl, rfl, rfl, rfl, rfl, rfl, rfl, rfl, rfl, rfl, rfl, rfl, rfl, rfl, rfl, rfl, rfl, rfl, rfl, rfl, rfl, rfl, rfl, rfl, rfl, rfl, rfl, rfl, trivial⟩
              · exact (by rw [addP2_vals (by omega)]; rfl)
            · try simp only [Bool.and_eq_true, Bool.or_eq_true, Bool.not_eq_true', Bool.not_eq_false', Bool.and_eq_false_iff, Bool.or_eq_false_iff, decide_eq_true_eq, decide_eq_false_iff_not, Int.not_lt, Int.not_le, ne_eq, Decidable.not_not] at h7
              rw [if_neg (by omega)] at htr
              refine WC.skip ?_
              refine QX.normal_in ?_
              refine QX.heap (fun w hw => trace_put hw 1 4 ((nth (rcX l c Q) x.toNat).2.1.toNat) (Q := addP Z ((nth (rcX l c Q) x.toNat).2.1.toNat) ((nth (rcX l c Q) x.toNat).2.2.1.toNat) 1) rfl rfl rfl (by rw [addP_put, hg_])) ?_
              refine QX.round (σ := Nat × Int × List (SliceV Int)) (Ef := fun q_ => [(0, 0, .slice la m lc), (1, 0, .slice ca q cc), (6, 0, .slice a m ca_), (7, 0, .int .i64 ((m : Nat) : Int)), (8, 0, .slice ra q rc), (9, 0, .slice ea q ec), (11, 0, .int .i64 ((q : Nat) : Int)), (13, 0, .slice la m lc), (14, 0, .slice ca q cc), (15, 0, .int .i64 (rchk l c)), (16, 0, .bool (decide (rchk l c ≠ 0))), (20, 0, .int .i64 ((m : Nat) : Int)), (21, 0, .slice la m lc), (22, 0, .int .i64 ((m : Nat) : Int)), (23, 0, .bool (decide (((m : Nat) : Int) < ((m : Nat) : Int)))), (36, 0, .slice la m lc), (37, 0, .slice ca q cc), (38, 0, .slice a m ca_), (39, 0, .slice ra q rc), (40, 0, .slice la m lc), (41, 0, .slice ca q cc), (42, 0, .slice a m ca_), (43, 0, .slice ea q ec), (44, 0, .int .i64 ((q : Nat) : Int)), (45, 0, .slice ca q cc), (46, 0, .int .i64 ((q : Nat) : Int)), (47, 0, .bool (decide (((q : Nat) : Int) < ((q : Nat) : Int)))), (81, 0, .int .i64 (bestX (rcX l c Q) (rmX l c Q) q)), (82, 0, .bool (decide (bestX (rcX l c Q) (rmX l c Q) q < 0))), (10, 0, .int .i64 q_.2.1)]) (Hf := fun q_ => [Item.own w0.heap.size a m ca_ 29 1 (((q_.2.2).map frow).map FRow.val), Item.fam w0.heap.size 3 1 ((q_.2.2).map frow), Item.own w0.heap.size ra q rc 3 1 (cellsOf encI (rmI l Q c m)), Item.own w0.heap.size ea q ec 85 4 (cellsOf encEd (rchX l Q m q (lfX l Q)))]) (I := fun q_ => trX l m q (rcX l c Q) q_.1 q_.2.1 q_.2.2 = some G ∧ ShX l q_.2.2 m) (μ := fun q_ => q_.1) (s := (K1 + 1, x, Z)) 4 ((K1, -1, addP Z ((nth (rcX l c Q) x.toNat).2.1.toNat) ((nth (rcX l c Q) x.toNat).2.2.1.toNat) 1)) ⟨⟨(by exact htr), hsh.add (by omega)⟩, by first | omega | (dsimp only; omega)⟩ ?_ ?_
              · exact ⟨rfl, rfl, rfl, rfl, rfl, rfl, rfl, rfl, rfl, rfl, rfl, rfl, rfl, rfl, rfl, rfl, rfl, rfl, rfl, rfl, rfl, rfl, rfl, rfl, rfl, rfl, rfl, rfl, rfl, rfl, rfl, rfl, rfl, rfl, rfl, rfl, rfl, rfl, rfl, rfl, rfl, rfl, rfl, rfl, rfl, rfl, rfl, rfl, rfl, rfl, rfl, rfl, rfl, rfl, rfl, rfl, rfl, rfl, rfl, rfl, trivial⟩
              · exact (by rw [addP_vals (by omega)]; rfl)
          · try simp only [Bool.and_eq_true, Bool.or_eq_true, Bool.not_eq_true', Bool.not_eq_false', Bool.and_eq_false_iff, Bool.or_eq_false_iff, decide_eq_true_eq, decide_eq_false_iff_not, Int.not_lt, Int.not_le, ne_eq, Decidable.not_not] at h6
            rw [if_pos (by omega)] at htr
            have hG2 : SlvN l c n1 Z R := by rw [Option.some.inj htr]; exact hG
            refine WC.exit ?_
            refine QX.exit_then ?_
            refine QX.exit_then ?_
            refine QX.exit_hit ?_
            refine QX.normal_in ?_
            refine QX.round (σ := Nat × List (SliceV Int)) (Ef := fun q_ => [(0, 0, .slice la m lc), (1, 0, .slice ca q cc), (6, 0, .slice a m ca_), (7, 0, .int .i64 ((m : Nat) : Int)), (13, 0, .slice la m lc), (14, 0, .slice ca q cc), (15, 0, .int .i64 (rchk l c)), (16, 0, .bool (decide (rchk l c ≠ 0))), (20, 0, .int .i64 ((m : Nat) : Int)), (21, 0, .slice la m lc), (22, 0, .int .i64 ((m : Nat) : Int)), (23, 0, .bool (decide (((m : Nat) : Int) < ((m : Nat) : Int))))]) (Hf := fun q_ => [Item.own w0.heap.size a m ca_ 29 1 (((q_.2).map frow).map FRow.val), Item.fam w0.heap.size 3 1 ((q_.2).map frow)]) (I := fun q_ => SlvN l c q_.1 q_.2 R) (μ := fun q_ => q_.1) (s := (n1 + 1, Q)) 2 ((n1, Z)) ⟨(by exact hG2), by first | omega | (dsimp only; omega)⟩ ⟨rfl, rfl, rfl, rfl, rfl, rfl, rfl, rfl, rfl, rfl, rfl, rfl, rfl, rfl, rfl, rfl, rfl, rfl, rfl, rfl, rfl, rfl, rfl, rfl, trivial⟩ rfl

end Go.Proofs.Ytngkbnaehkailaa

namespace Go.Proofs.Ytngkbnaehkailaa
open Go Go.RowKit Eng
set_option linter.unusedVariables false
set_option linter.unusedSimpArgs false

section
variable {P : Program} {N : Nat} {w0 : World} {Q : Exit → Act → World → Prop} {E : Env} {Γ : Gds} {H : Heap} {ops : Array Oper} {rest : List Oper}
theorem SL.callof2 {o : Oper} {d f : Nat} {x : Operand} {xs : Array Operand} {ts : Array TypeId} {vs : List Value} (u : Nat) (I : List (SliceV Int) → Prop)
    (ho : o.op = .call { callee := .value x, args := xs, argTypes := ts }) (hg : o.guard = none) (hd : o.dst = some d) (hN : Nat.blt d N = true)
    (hx : ev E Γ 0 x = some (.func (.func f) #[] #[])) (hxs : evs E Γ 0 xs.toList = some vs) (hf : callable P f = true)
    (hC : ∀ w, HeapOk w0 H w → FnC P f vs w fun v w' => ∃ a cap rs, v = .tuple #[.slice a u cap, .int .i64 0] ∧ I rs ∧ (ofam w.heap.size a u cap (rs.map frow)).ok w')
    (h : ∀ a cap rs, I rs → SL P N w0 ops Q rest ((d, 0, .tuple #[.slice a u cap, .int .i64 0]) :: E) Γ (H ++ [ofam w0.heap.size a u cap (rs.map frow)])) : SL P N w0 ops Q (o :: rest) E Γ H :=
  SL.call (R := fun w v w' => ∃ a cap rs, v = .tuple #[.slice a u cap, .int .i64 0] ∧ I rs ∧ (ofam w.heap.size a u cap (rs.map frow)).ok w') ho hg hd hN hx hxs hf hC fun _ w _ hw _ hb ⟨a, cap, rs, hv, hI, hok⟩ =>
    ⟨_, hw.add (x := ofam w0.heap.size a u cap (rs.map frow)) hb (ofam_weak hw.below.size hok) (ofam_fresh hok), by rw [hv]; exact h a cap rs hI⟩
end
section
variable {l : List Pa} {c : List Int} {P : List (SliceV Int)}
theorem crwO_all : ∀ n, (∀ i, i < n → crw l P i = false) → crwO l P n = false
  | 0, _ => rfl
  | n + 1, h => by rw [crwO, crwO_all n (fun i hi => h i (by omega)), h n (by omega)]; rfl
theorem plan_val (hck : rchk l c = 0) (hp : PlanOk l c P) : rval l c P = (sumO l P l.length, dlyO l P l.length, 0) := by
  have h2 : shpB l P = true := shp_yes hp.len ((allK_iff _).2 fun i hi => row_yes (hp.row i hi) ((allK_iff _).2 fun j hj => decide_eq_true (hp.pos i hi j (by have := hp.row i hi; omega))))
  have h3 : crwO l P l.length = false := crwO_all _ fun i hi => by rw [crw, decide_eq_false_iff_not]; have := hp.sum i hi; omega
  have h4 : allK (fitB c (useO c.length l P l.length)) c.length = true := (allK_iff _).2 fun t ht => decide_eq_true (hp.use t ht)
  rw [rval, if_neg (by simp [hck]), if_neg (by simp [h2]), if_neg (by simp [h3]), if_neg (by simp [h4])]
theorem solves_same {m q : Nat} {R : List Int × Int × Int} (hck : rchk l c = 0) (hm : m = l.length) (hq : q = c.length) (hS : wayS l m ≤ 1024) (hB : Best (edO m q l c m) (m + q + 2) 0 (m + q + 1) (peoT l m) R) (hr : RawOk l c P) (hp : ∃ πT πi πv, PPot l c P πT πi πv) (hb : bsX l c P < 0) : rval l c P = (R.2.1, R.2.2, 0) := by
  subst hm; subst hq
  have h := same_best hck hB (raw_best hck hS hr hp hb) hS
  rw [plan_val hck (hr.plan (PaOk.of hck))]
  exact Prod.ext h.1 (Prod.ext h.2 rfl)
end
set_option maxHeartbeats 4000000 in
set_option maxRecDepth 100000 in
theorem solves_bad (w0 : World) (l : List Pa) (la : Option Addr) (m lc : Nat) (hm : m = l.length) (hI : ∀ i, i < m → SliceIn w0 2 (nth l i).2.2.ao (nth l i).2.2.l.length (nth l i).2.2.cap (rowsF enc77 (nth l i).2.2.l)) (sL : SliceIn w0 3 la m lc (rowsF enc55 l)) (c : List Int) (ca : Option Addr) (q cc : Nat) (hq : q = c.length) (sC : SliceIn w0 1 ca q cc (rowsF encI c)) (hbad : rchk l c ≠ 0) : FnC Try.prog 11 [.slice la m lc, .slice ca q cc] w0 fun v w' => v = .bool true := by
  refine fnc (N := 82) Try.func11 rfl rfl rfl ?_
  refine WC.seq ?_
  refine WC.region ?_
  refine SL.pure rfl rfl rfl (PureOp.assign rfl) ?_
  refine SL.nil_then ?_
  refine WC.seq ?_
  refine WC.seq ?_
  refine WC.region ?_
  refine SL.pure rfl rfl rfl (PureOp.move rfl) ?_
  refine SL.pure rfl rfl rfl (PureOp.move rfl) ?_
  refine SL.calle rfl rfl rfl rfl rfl rfl callable25 (fun w hw => big52_ok w l la m lc hm (fun i hi => (hI i hi).below hw.below) (sL.below hw.below) c ca q cc hq (sC.below hw.below)) ?_
  refine SL.norm [] rfl ?_
  refine SL.nil_then ?_
  refine WC.cond rfl (fun h1 => ?_) (fun h1 => ?_)
  · try simp only [Bool.and_eq_true, Bool.or_eq_true, Bool.not_eq_true', Bool.not_eq_false', Bool.and_eq_false_iff, Bool.or_eq_false_iff, decide_eq_true_eq, decide_eq_false_iff_not, Int.not_lt, Int.not_le, ne_eq, Decidable.not_not] at h1
    refine WC.seq ?_
    refine WC.region ?_
    refine SL.calle rfl rfl rfl rfl rfl rfl callable26 (fun w hw => awake52_ok w) ?_
    refine SL.norm [] rfl ?_
    refine SL.pure rfl rfl rfl (PureOp.assign rfl) ?_
    refine SL.nil_then ?_
    refine WC.ret ?_
    refine QX.ret_then ?_
    refine QX.ret1 rfl rfl ?_
    intro w hw
    rfl
  · try simp only [Bool.and_eq_true, Bool.or_eq_true, Bool.not_eq_true', Bool.not_eq_false', Bool.and_eq_false_iff, Bool.or_eq_false_iff, decide_eq_true_eq, decide_eq_false_iff_not, Int.not_lt, Int.not_le, ne_eq, Decidable.not_not] at h1
    refine WC.skip ?_
    refine QX.then_ ?_
    refine WC.seq ?_
    refine WC.region ?_
    refine SL.pure rfl rfl rfl (PureOp.move rfl) ?_
    refine SL.pure rfl rfl rfl (PureOp.move rfl) ?_
    refine SL.calle rfl rfl rfl rfl rfl rfl callable31 (fun w hw => psolve52_bad w l la m lc hm (fun i hi => (hI i hi).below hw.below) (sL.below hw.below) c ca q cc hq (sC.below hw.below) hbad) ?_
    refine SL.norm [] rfl ?_
    refine SL.pure rfl rfl rfl (PureOp.move rfl) ?_
    refine SL.pure rfl rfl rfl (PureOp.extract rfl rfl) ?_
    refine SL.pure rfl rfl rfl (PureOp.extract rfl rfl) ?_
    refine SL.pure rfl rfl rfl (PureOp.assign rfl) ?_
    refine SL.pure rfl rfl rfl (PureOp.assign rfl) ?_
    refine SL.nil_then ?_
    refine WC.seq ?_
    refine WC.region ?_
    refine SL.pure rfl rfl rfl (PureOp.move rfl) ?_
    refine SL.pure rfl rfl rfl (PureOp.move rfl) ?_
    refine SL.calle rfl rfl rfl rfl rfl rfl callable33 (fun w hw => rsolve52_bad w l la m lc hm (fun i hi => (hI i hi).below hw.below) (sL.below hw.below) c ca q cc hq (sC.below hw.below) hbad) ?_
    refine SL.norm [] rfl ?_
    refine SL.pure rfl rfl rfl (PureOp.move rfl) ?_
    refine SL.pure rfl rfl rfl (PureOp.extract rfl rfl) ?_
    refine SL.pure rfl rfl rfl (PureOp.extract rfl rfl) ?_
    refine SL.pure rfl rfl rfl (PureOp.assign rfl) ?_
    refine SL.pure rfl rfl rfl (PureOp.assign rfl) ?_
    refine SL.nil_then ?_
    refine WC.seq ?_
    refine WC.seq ?_
    refine WC.region ?_
    refine SL.pure rfl rfl rfl (PureOp.move rfl) ?_
    refine SL.pure rfl rfl rfl (PureOp.move rfl) ?_
    refine SL.pure rfl rfl rfl (PureOp.neq rfl rfl) ?_
    refine SL.lit 33 false rfl (by simp) ?_
    refine SL.nil_then ?_
    refine WC.condF rfl ?_
    refine WC.skip ?_
    refine QX.then_ ?_
    refine WC.seq ?_
    refine WC.seq ?_
    refine WC.region ?_
    refine SL.pure rfl rfl rfl (PureOp.move rfl) ?_
    refine SL.pure rfl rfl rfl (PureOp.neq rfl rfl) ?_
    refine SL.lit 35 true rfl (decide_eq_true hbad) ?_
    refine SL.nil_then ?_
    refine WC.condT rfl ?_
    refine WC.seq ?_
    refine WC.region ?_
    refine SL.pure rfl rfl rfl (PureOp.move rfl) ?_
    refine SL.pure rfl rfl rfl (PureOp.len rfl Try.underlying44) ?_
    refine SL.pure rfl rfl rfl (PureOp.eql rfl rfl) ?_
    refine SL.lit 38 true rfl (by decide) ?_
    refine SL.pure rfl rfl rfl (PureOp.move rfl) ?_
    refine SL.ung rfl rfl rfl rfl ?_
    refine SL.calle rfl rfl rfl rfl rfl rfl callable26 (fun w hw => awake52_ok w) ?_
    refine SL.norm [] rfl ?_
    refine SL.pure rfl rfl rfl (PureOp.pickT rfl rfl) ?_
    refine SL.pure rfl rfl rfl (PureOp.assign rfl) ?_
    refine SL.nil_then ?_
    refine WC.ret ?_
    refine QX.ret_then ?_
    refine QX.ret1 rfl rfl ?_
    intro w hw
    rfl

set_option maxHeartbeats 4000000 in
set_option maxRecDepth 100000 in
theorem solves_ok52 (w0 : World) (l : List Pa) (la : Option Addr) (m lc : Nat) (hm : m = l.length) (hI : ∀ i, i < m → SliceIn w0 2 (nth l i).2.2.ao (nth l i).2.2.l.length (nth l i).2.2.cap (rowsF enc77 (nth l i).2.2.l)) (sL : SliceIn w0 3 la m lc (rowsF enc55 l)) (c : List Int) (ca : Option Addr) (q cc : Nat) (hq : q = c.length) (sC : SliceIn w0 1 ca q cc (rowsF encI c)) (hok : rchk l c = 0) (hS : wayS l m ≤ 1024) (K0 : Nat) (R : List Int × Int × Int) (hR : slv (edO m q l c m) ((m : Int) + (q : Int) + 1 + 1).toNat 0 ((m : Int) + (q : Int) + 1) (peoT l m) K0 (List.replicate (edO m q l c m).length 0) 0 0 = some R) (hB : Best (edO m q l c m) (m + q + 2) 0 (m + q + 1) (peoT l m) R) : FnC Try.prog 11 [.slice la m lc, .slice ca q cc] w0 fun v w' => v = .bool true := by
  have hmB : (m : Int) ≤ 9223372036854775807 := by
    have h1 := sL.le; have h2 := sL.max; simp only [maxLen] at h2; omega
  have hIb : ∀ i, i < m → ((nth l i).2.2.l.length : Int) ≤ 9223372036854775807 := fun i hi => by
    have h1 := (hI i hi).le; have h2 := (hI i hi).max; simp only [maxLen] at h2; omega
  have hOk := PaOk.of hok
  have hnl := hOk.nl
  have hS2 : wayS l l.length ≤ 1024 := by rw [← hm]; exact hS
  have hRl : R.1.length = m + q + wayS l m := by rw [hB.feas.len, edO_len]
  refine fnc (N := 82) Try.func11 rfl rfl rfl ?_
  refine WC.seq ?_
  refine WC.region ?_
  refine SL.pure rfl rfl rfl (PureOp.assign rfl) ?_
  refine SL.nil_then ?_
  refine WC.seq ?_
  refine WC.seq ?_
  refine WC.region ?_
  refine SL.pure rfl rfl rfl (PureOp.move rfl) ?_
  refine SL.pure rfl rfl rfl (PureOp.move rfl) ?_
  refine SL.calle rfl rfl rfl rfl rfl rfl callable25 (fun w hw => big52_ok w l la m lc hm (fun i hi => (hI i hi).below hw.below) (sL.below hw.below) c ca q cc hq (sC.below hw.below)) ?_
  refine SL.norm [] rfl ?_
  refine SL.nil_then ?_
  refine WC.cond rfl (fun h1 => ?_) (fun h1 => ?_)
  · try simp only [Bool.and_eq_true, Bool.or_eq_true, Bool.not_eq_true', Bool.not_eq_false', Bool.and_eq_false_iff, Bool.or_eq_false_iff, decide_eq_true_eq, decide_eq_false_iff_not, Int.not_lt, Int.not_le, ne_eq, Decidable.not_not] at h1
    refine WC.seq ?_
    refine WC.region ?_
    refine SL.calle rfl rfl rfl rfl rfl rfl callable26 (fun w hw => awake52_ok w) ?_
    refine SL.norm [] rfl ?_
    refine SL.pure rfl rfl rfl (PureOp.assign rfl) ?_
    refine SL.nil_then ?_
    refine WC.ret ?_
    refine QX.ret_then ?_
    refine QX.ret1 rfl rfl ?_
    intro w hw
    rfl
  · try simp only [Bool.and_eq_true, Bool.or_eq_true, Bool.not_eq_true', Bool.not_eq_false', Bool.and_eq_false_iff, Bool.or_eq_false_iff, decide_eq_true_eq, decide_eq_false_iff_not, Int.not_lt, Int.not_le, ne_eq, Decidable.not_not] at h1
    refine WC.skip ?_
    refine QX.then_ ?_
    refine WC.seq ?_
    refine WC.region ?_
    refine SL.pure rfl rfl rfl (PureOp.move rfl) ?_
    refine SL.pure rfl rfl rfl (PureOp.move rfl) ?_
    refine SL.callo2 (σ := Option Addr × Nat × List (SliceV Int) × Option Addr × Nat) (fun y => .tuple #[.slice y.2.2.2.1 m y.2.2.2.2, .int .i64 0]) (fun y => PlanIs y.1 (m + q + wayS l m) y.2.1 R.1 l (m + q) m y.2.2.1) (fun y => y.2.2.2.1) (fun y => y.1) (fun y => y.2.2.2.2) (fun y => y.2.1) m (m + q + wayS l m) 29 3 1 1 (fun y => cellsOf encSl y.2.2.1) (fun _ => cellsOf encI R.1) rfl rfl rfl rfl rfl rfl callable31 (fun w hw => psolve52_f w l la m lc hm (fun i hi => (hI i hi).below hw.below) (sL.below hw.below) c ca q cc hq (sC.below hw.below) hok hS K0 R hR) ?_
    rintro ⟨fa, fc, P, pa, pc⟩ hP
    have hPl : ∀ t, t < m → (nth P t).l.length = (nth l t).2.2.l.length := fun t ht => by rw [hP.row t ht]; exact chunkS_len ht (by rw [hRl]; exact Nat.le_refl _)
    have hpo : PlanOk l c P := (rval_ok (plan_is hok hm hq hB hP)).1.2
    have hpm : P.length = m := hP.len
    refine SL.norm [_] rfl ?_
    refine SL.pure rfl rfl rfl (PureOp.move rfl) ?_
    refine SL.pure rfl rfl rfl (PureOp.extract rfl rfl) ?_
    refine SL.pure rfl rfl rfl (PureOp.extract rfl rfl) ?_
    refine SL.pure rfl rfl rfl (PureOp.assign rfl) ?_
    refine SL.pure rfl rfl rfl (PureOp.assign rfl) ?_
    refine SL.nil_then ?_
    refine WC.seq ?_
    refine WC.region ?_
    refine SL.pure rfl rfl rfl (PureOp.move rfl) ?_
    refine SL.pure rfl rfl rfl (PureOp.move rfl) ?_
    refine SL.callof2 m (fun S => RawOk l c S ∧ (∃ πT πi πv, PPot l c S πT πi πv) ∧ bsX l c S < 0) rfl rfl rfl rfl rfl rfl callable33 (fun w hw => (rsolve52_ok w l la m lc hm (fun i hi => (hI i hi).below hw.below) (sL.below hw.below) c ca q cc hq (sC.below hw.below) hok hS).mono fun v w2 ⟨a, cap, S, e, h1, h2, h3, h4⟩ => ⟨a, cap, S, e, ⟨h1, h2, h3⟩, h4⟩) ?_
    rintro ra rc S ⟨hSr, hSp, hSb⟩
    refine SL.norm [_, _] rfl ?_
    refine SL.pure rfl rfl rfl (PureOp.move rfl) ?_
    refine SL.pure rfl rfl rfl (PureOp.extract rfl rfl) ?_
    refine SL.pure rfl rfl rfl (PureOp.extract rfl rfl) ?_
    refine SL.pure rfl rfl rfl (PureOp.assign rfl) ?_
    refine SL.pure rfl rfl rfl (PureOp.assign rfl) ?_
    refine SL.nil_then ?_
    refine WC.seq ?_
    refine WC.seq ?_
    refine WC.region ?_
    refine SL.pure rfl rfl rfl (PureOp.move rfl) ?_
    refine SL.pure rfl rfl rfl (PureOp.move rfl) ?_
    refine SL.pure rfl rfl rfl (PureOp.neq rfl rfl) ?_
    refine SL.lit 33 false rfl (by decide) ?_
    refine SL.nil_then ?_
    refine WC.condF rfl ?_
    refine WC.skip ?_
    refine QX.then_ ?_
    refine WC.seq ?_
    refine WC.seq ?_
    refine WC.region ?_
    refine SL.pure rfl rfl rfl (PureOp.move rfl) ?_
    refine SL.pure rfl rfl rfl (PureOp.neq rfl rfl) ?_
    refine SL.lit 35 false rfl (by decide) ?_
    refine SL.nil_then ?_
    refine WC.condF rfl ?_
    refine WC.skip ?_
    refine QX.then_ ?_
    refine WC.seq ?_
    refine WC.region ?_
    refine SL.pure rfl rfl rfl (PureOp.move rfl) ?_
    refine SL.pure rfl rfl rfl (PureOp.move rfl) ?_
    refine SL.pure rfl rfl rfl (PureOp.move rfl) ?_
    refine SL.calle rfl rfl rfl rfl rfl rfl callable28 (fun w hw => (by have h := rvalid52_ok w l la m lc hm (fun i hi => (hI i hi).below hw.below) (sL.below hw.below) c ca q cc hq (sC.below hw.below) P pa m pc hP.len.symm (fun t ht => hP.sub t ht w (SliceIn.rows (l := R.1) (both2 hw 0 rfl) encI_len (by rw [hRl]; exact Nat.le_refl _))) ((fun w hw => SliceIn.rows (l := P) (both1 hw 0 rfl) encSl_len (by rw [hP.len]; exact Nat.le_refl _)) w hw) (fun t ht => by have h1 := hPl t ht; have h2 := wayS_at (l := l) ht; omega); rw [plan_is hok hm hq hB hP] at h; exact h)) ?_
    refine SL.norm [_, _] rfl ?_
    refine SL.pure rfl rfl rfl (PureOp.move rfl) ?_
    refine SL.pure rfl rfl rfl (PureOp.extract rfl rfl) ?_
    refine SL.pure rfl rfl rfl (PureOp.extract rfl rfl) ?_
    refine SL.pure rfl rfl rfl (PureOp.extract rfl rfl) ?_
    refine SL.pure rfl rfl rfl (PureOp.assign rfl) ?_
    refine SL.pure rfl rfl rfl (PureOp.assign rfl) ?_
    refine SL.pure rfl rfl rfl (PureOp.assign rfl) ?_
    refine SL.nil_then ?_
    refine WC.seq ?_
    refine WC.region ?_
    refine SL.pure rfl rfl rfl (PureOp.move rfl) ?_
    refine SL.pure rfl rfl rfl (PureOp.move rfl) ?_
    refine SL.pure rfl rfl rfl (PureOp.move rfl) ?_
    refine SL.calle rfl rfl rfl rfl rfl rfl callable28 (fun w hw => (by have hSm : m = S.length := hm.trans hSr.sh.len.symm; have h := rvalid52_ok w l la m lc hm (fun i hi => (hI i hi).below hw.below) (sL.below hw.below) c ca q cc hq (sC.below hw.below) S ra m rc hSm (frow_inner hSm (hw.mem (i := 1) rfl).2) (frow_outer hSm (hw.mem (i := 1) rfl).1) (fun t ht => by have h1 : (nth S t).l.length = (nth l t).2.2.l.length := hSr.sh.row t (by omega); have h2 := wayS_at (l := l) ht; omega); rw [solves_same hok hm hq hS hB hSr hSp hSb] at h; exact h)) ?_
    refine SL.norm [_, _] rfl ?_
    refine SL.pure rfl rfl rfl (PureOp.move rfl) ?_
    refine SL.pure rfl rfl rfl (PureOp.extract rfl rfl) ?_
    refine SL.pure rfl rfl rfl (PureOp.extract rfl rfl) ?_
    refine SL.pure rfl rfl rfl (PureOp.extract rfl rfl) ?_
    refine SL.pure rfl rfl rfl (PureOp.assign rfl) ?_
    refine SL.pure rfl rfl rfl (PureOp.assign rfl) ?_
    refine SL.pure rfl rfl rfl (PureOp.assign rfl) ?_
    refine SL.nil_then ?_
    refine WC.seq ?_
    refine WC.region ?_
    refine SL.pure rfl rfl rfl (PureOp.move rfl) ?_
    refine SL.pure rfl rfl rfl (PureOp.eql rfl rfl) ?_
    refine SL.lit 59 true rfl (decide_eq_true rfl) ?_
    refine SL.pure rfl rfl rfl (PureOp.move rfl) ?_
    refine SL.ung rfl rfl rfl rfl ?_
    refine SL.pure rfl rfl rfl (PureOp.move rfl) ?_
    refine SL.ung rfl rfl rfl rfl ?_
    refine SL.pure rfl rfl rfl (PureOp.move rfl) ?_
    refine SL.ung rfl rfl rfl rfl ?_
    refine SL.pure rfl rfl rfl (PureOp.eql rfl rfl) ?_
    refine SL.lit 63 true rfl (by simp) ?_
    refine SL.pure rfl rfl rfl (PureOp.pickT rfl rfl) ?_
    refine SL.pure rfl rfl rfl (PureOp.move rfl) ?_
    refine SL.ung rfl rfl rfl rfl ?_
    refine SL.pure rfl rfl rfl (PureOp.move rfl) ?_
    refine SL.ung rfl rfl rfl rfl ?_
    refine SL.pure rfl rfl rfl (PureOp.move rfl) ?_
    refine SL.ung rfl rfl rfl rfl ?_
    refine SL.pure rfl rfl rfl (PureOp.eql rfl rfl) ?_
    refine SL.lit 68 true rfl (by simp) ?_
    refine SL.pure rfl rfl rfl (PureOp.pickT rfl rfl) ?_
    refine SL.pure rfl rfl rfl (PureOp.move rfl) ?_
    refine SL.ung rfl rfl rfl rfl ?_
    refine SL.pure rfl rfl rfl (PureOp.move rfl) ?_
    refine SL.ung rfl rfl rfl rfl ?_
    refine SL.pure rfl rfl rfl (PureOp.move rfl) ?_
    refine SL.ung rfl rfl rfl rfl ?_
    refine SL.callo (fun fa1 fc1 => .slice fa1 m fc1) rfl rfl rfl rfl rfl rfl callable35 (fun w hw => pleft52_ok w l la m lc hm (fun i hi => (hI i hi).below hw.below) (sL.below hw.below) P pa m pc hP.len.symm (fun t ht => hP.sub t ht w (SliceIn.rows (l := R.1) (both2 hw 0 rfl) encI_len (by rw [hRl]; exact Nat.le_refl _))) ((fun w hw => SliceIn.rows (l := P) (both1 hw 0 rfl) encSl_len (by rw [hP.len]; exact Nat.le_refl _)) w hw) (hpo.nums hOk) (by omega) (fun i hi => hOk.cnt i (by omega)) (fun i hi => way_le hS2 (by omega))) (fun fa1 fc1 => ?_)
    refine SL.norm [_, _, _] rfl ?_
    refine SL.ung rfl rfl rfl rfl ?_
    refine SL.pure rfl rfl rfl (PureOp.move rfl) ?_
    refine SL.ung rfl rfl rfl rfl ?_
    refine SL.pure rfl rfl rfl (PureOp.move rfl) ?_
    refine SL.ung rfl rfl rfl rfl ?_
    refine SL.callo (fun fa2 fc2 => .slice fa2 m fc2) rfl rfl rfl rfl rfl rfl callable36 (fun w hw => rleft52_ok w l la m lc hm (fun i hi => (hI i hi).below hw.below) (sL.below hw.below) P pa m pc hP.len.symm (fun t ht => hP.sub t ht w (SliceIn.rows (l := R.1) (both2 hw 0 rfl) encI_len (by rw [hRl]; exact Nat.le_refl _))) ((fun w hw => SliceIn.rows (l := P) (both1 hw 0 rfl) encSl_len (by rw [hP.len]; exact Nat.le_refl _)) w hw) (hpo.nums hOk) (by omega) (fun i hi => hOk.cnt i (by omega)) (fun i hi => way_le hS2 (by omega))) (fun fa2 fc2 => ?_)
    refine SL.norm [_, _, _, _] rfl ?_
    refine SL.ung rfl rfl rfl rfl ?_
    refine SL.calle rfl rfl rfl rfl rfl rfl callable34 (fun w hw => (by have h := same52_ok (lfL l P m) (lfL l P m) fa1 fa2 m m fc1 fc2 (lfL_len m).symm (lfL_len m).symm w (SliceIn.rows (l := lfL l P m) (hw.mem (i := 2) rfl) encI_len (by rw [lfL_len]; exact Nat.le_refl _)) (SliceIn.rows (l := lfL l P m) (hw.mem (i := 3) rfl) encI_len (by rw [lfL_len]; exact Nat.le_refl _)) (by omega); rw [decide_eq_true rfl] at h; exact h)) ?_
    refine SL.norm [_, _, _, _] rfl ?_
    refine SL.pure rfl rfl rfl (PureOp.pickT rfl rfl) ?_
    refine SL.pure rfl rfl rfl (PureOp.move rfl) ?_
    refine SL.ung rfl rfl rfl rfl ?_
    refine SL.calle rfl rfl rfl rfl rfl rfl callable26 (fun w hw => awake52_ok w) ?_
    refine SL.norm [_, _, _, _] rfl ?_
    refine SL.pure rfl rfl rfl (PureOp.pickT rfl rfl) ?_
    refine SL.pure rfl rfl rfl (PureOp.assign rfl) ?_
    refine SL.nil_then ?_
    refine WC.ret ?_
    refine QX.ret1 rfl rfl ?_
    intro w hw
    rfl

end Go.Proofs.Ytngkbnaehkailaa

