/- The walks of zone: what each function returns. -/
import Derived.Test.YtocegpfmoiokeaaZone
namespace Go.Proofs.Ytocegpfmoiokeaa
open Go Go.RowKit Eng
set_option linter.unusedVariables false
set_option linter.unusedSimpArgs false
theorem spans_step (l : List Sh) (f o : Int) (k : Nat) (h : k < l.length) : (cellsOf encP (spansF f o (l.take k))).set ((((k + 1 : Nat) : Int) - 1).toNat * 3 + 1) (.int .i64 (nth l k).1) ++ encP ((nth l k).1, maxI, (nth l k).2) = cellsOf encP (spansF f o (l.take (k + 1))) := by
  rw [take_nth h, ← spans_snoc, List.length_take, show (((k + 1 : Nat) : Int) - 1).toNat = min k l.length from by omega]
def spanF (L : List (Int × Int × Int)) := rowsF encP L
set_option maxHeartbeats 4000000 in
set_option maxRecDepth 100000 in
theorem spans_ok (o : Int) (l : List Sh) (ao : Option Addr) (n cap : Nat) (hn : n = l.length) (w0 : World) (hz : SliceIn w0 2 ao n cap (rowsF encS l)) (hnb : n ≤ 1000) : FnC Try.prog 21 [.agg #[.int .i64 o, .slice ao n cap]] w0 fun v w => ∃ a c, v = .slice a (n + 1) c ∧ w.ownsRow w0.heap.size 38 3 (.slice a (n + 1) c) (n + 1) (cellsOf encP (spansF minI o l)) := by
  refine fnc (N := 35) Try.func21 rfl rfl rfl ?_
  refine WC.seq ?_
  refine WC.region ?_
  refine SL.box rfl rfl rfl (fun b1 hb1 => ?_)
  refine SL.pure rfl rfl rfl (PureOp.assign rfl) ?_
  refine SL.nil_then ?_
  refine WC.seq ?_
  refine WC.region ?_
  refine SL.pure rfl rfl rfl (PureOp.fieldAddrT 0 Try.underlying24 rfl sz3 rfl rfl) ?_
  refine SL.pure rfl rfl rfl (PureOp.load Try.underlying3 rfl rfl (fun _ => (CellIs.cells 0 rfl rfl))) ?_
  refine SL.pure rfl rfl rfl (PureOp.build bld38 rfl rfl) ?_
  refine SL.buildSlice rfl rfl Try.underlying35 elem38 rfl rfl rfl rfl (fun b2 hb2 => ?_)
  refine SL.pure rfl rfl rfl (PureOp.assign rfl) ?_
  refine SL.nil_then ?_
  refine WC.seq ?_
  refine WC.seq ?_
  refine WC.region ?_
  refine SL.pure rfl rfl rfl (PureOp.fieldAddrT 1 Try.underlying24 rfl sz22 rfl rfl) ?_
  refine SL.pure rfl rfl rfl (PureOp.load Try.underlying22 rfl rfl (fun _ => (CellIs.cells 0 rfl rfl))) ?_
  refine SL.pure rfl rfl rfl (PureOp.len rfl Try.underlying22) ?_
  refine SL.pure rfl rfl rfl (PureOp.move rfl) ?_
  refine SL.nil_then ?_
  refine WC.block ?_
  refine WC.loop (σ := Nat × Option Addr × Nat) (fun s => [(1, 0, .pointer (some ⟨b1, 0, none⟩)), (3, 0, .slice s.2.1 (s.1 + 1) s.2.2), (11, 0, .slice ao n cap), (12, 0, .int .i64 n), (13, 0, .int .i64 (s.1 : Nat))]) (fun s => [Item.cells b1 [.int .i64 o, .slice ao n cap] 24, .own w0.heap.size s.2.1 (s.1 + 1) s.2.2 38 3 (cellsOf encP (spansF minI o (l.take s.1)))]) (fun s => s.1 ≤ n) (fun s => n - s.1) 2 ((0, _, _)) (Nat.zero_le _) ⟨rfl, rfl, rfl, rfl, rfl, rfl, rfl, rfl, rfl, rfl, trivial⟩ rfl ?_
  rintro ⟨k, a, c⟩ hk
  dsimp only at hk ⊢
  refine WC.seq ?_
  refine WC.region ?_
  refine SL.pure rfl rfl rfl (PureOp.lss rfl rfl) ?_
  refine SL.nil_then ?_
  refine WC.seq ?_
  refine WC.cond rfl (fun h1 => ?_) (fun h1 => ?_)
  · simp only [Bool.and_eq_true, Bool.or_eq_true, Bool.not_eq_true', Bool.not_eq_false', Bool.and_eq_false_iff, Bool.or_eq_false_iff, decide_eq_true_eq, decide_eq_false_iff_not, Int.not_lt, Int.not_le, ne_eq, Decidable.not_not] at h1
    refine WC.skip ?_
    refine QX.then_ ?_
    refine WC.seq ?_
    refine WC.block ?_
    refine WC.seq ?_
    refine WC.region ?_
    refine SL.pure rfl rfl rfl (PureOp.indexAddrN Try.underlying22 sz34 rfl rfl (AoOk.in_ hz) (fun _ => by (first | omega | (have q := cellsOf_length encP_len (spansF minI o (l.take k)); rw [spansF_length, List.length_take] at q; omega)))) ?_
    refine SL.pure rfl rfl rfl (PureOp.loads Try.underlying34 rfl rfl (fun _ => (RowIs.in_ hz _ 0 2 (by omega) (by omega))) sz34) ?_
    refine SL.alloc rfl rfl zero34 (fun b3 hb3 => ?_)
    refine SL.store 2 rfl rfl rfl rfl sz34 rfl rfl ?_
    refine SL.nil_then ?_
    refine WC.seq ?_
    refine WC.region ?_
    refine SL.pure rfl rfl rfl (PureOp.move rfl) ?_
    refine SL.pure rfl rfl rfl (PureOp.move rfl) ?_
    refine SL.pure rfl rfl rfl (PureOp.len rfl Try.underlying35) ?_
    refine SL.pure rfl rfl rfl (PureOp.sub rfl rfl (fun _ => by (first | omega | (have q := cellsOf_length encP_len (spansF minI o (l.take k)); rw [spansF_length, List.length_take] at q; omega)))) ?_
    refine SL.pure rfl rfl rfl (PureOp.fieldAddrT 0 Try.underlying34 rfl sz3 rfl rfl) ?_
    refine SL.pure rfl rfl rfl (PureOp.load Try.underlying3 rfl rfl (fun _ => (CellIs.cells 2 rfl rfl))) ?_
    refine SL.pure rfl rfl rfl (PureOp.indexAddr Try.underlying35 sz38 rfl rfl (AoOk.own 1 rfl) (fun _ => by (first | omega | (have q := cellsOf_length encP_len (spansF minI o (l.take k)); rw [spansF_length, List.length_take] at q; omega)))) ?_
    refine SL.pure rfl rfl rfl (PureOp.fieldAddr 1 Try.underlying38 rfl rfl sz3 rfl) ?_
    refine SL.storeown 1 rfl rfl rfl rfl sz3 (by (first | omega | (have q := cellsOf_length encP_len (spansF minI o (l.take k)); rw [spansF_length, List.length_take] at q; omega))) rfl ?_
    refine SL.nil_then ?_
    refine WC.region ?_
    refine SL.pure rfl rfl rfl (PureOp.move rfl) ?_
    refine SL.pure rfl rfl rfl (PureOp.fieldAddrT 0 Try.underlying34 rfl sz3 rfl rfl) ?_
    refine SL.pure rfl rfl rfl (PureOp.load Try.underlying3 rfl rfl (fun _ => (CellIs.cells 2 rfl rfl))) ?_
    refine SL.pure rfl rfl rfl (PureOp.fieldAddrT 1 Try.underlying34 rfl sz3 rfl rfl) ?_
    refine SL.pure rfl rfl rfl (PureOp.load Try.underlying3 rfl rfl (fun _ => (CellIs.cells 2 rfl rfl))) ?_
    refine SL.pure rfl rfl rfl (PureOp.build bld38 rfl rfl) ?_
    refine SL.buildSlice rfl rfl Try.underlying35 elem38 rfl rfl rfl rfl (fun b4 hb4 => ?_)
    refine SL.append 1 rfl rfl Try.underlying35 elem38 rfl rfl rfl rfl (SrcIs.own 3 rfl) (by rfl) (by (first | omega | (have q := cellsOf_length encP_len (spansF minI o (l.take k)); rw [spansF_length, List.length_take] at q; omega))) (by (first | omega | (have q := cellsOf_length encP_len (spansF minI o (l.take k)); rw [spansF_length, List.length_take] at q; omega))) (fun ao1_ cap1_ => ?_)
    refine SL.pure rfl rfl rfl (PureOp.assign rfl) ?_
    refine SL.nil ?_
    refine QX.normal_in ?_
    refine QX.then_ ?_
    refine WC.region ?_
    refine SL.pure rfl rfl rfl (PureOp.add rfl rfl (fun _ => by (first | omega | (have q := cellsOf_length encP_len (spansF minI o (l.take k)); rw [spansF_length, List.length_take] at q; omega)))) ?_
    refine SL.pure rfl rfl rfl (PureOp.move rfl) ?_
    refine SL.nil ?_
    refine QX.round (s := (k, a, c)) (μ := fun s => n - s.1) 2 (k + 1, _, _) ⟨by show k + 1 ≤ n; omega, by show n - (k + 1) < n - k; omega⟩ ⟨rfl, rfl, rfl, rfl, rfl, rfl, rfl, rfl, rfl, rfl, trivial⟩ ?_
    exact congrArg (fun z => [Item.cells b1 [.int .i64 o, .slice ao n cap] 24, Item.own w0.heap.size ao1_ (k + 1 + 1) cap1_ 38 3 z]) (spans_step l minI o k (by omega))
  · simp only [Bool.and_eq_true, Bool.or_eq_true, Bool.not_eq_true', Bool.not_eq_false', Bool.and_eq_false_iff, Bool.or_eq_false_iff, decide_eq_true_eq, decide_eq_false_iff_not, Int.not_lt, Int.not_le, ne_eq, Decidable.not_not] at h1
    refine WC.exit ?_
    refine QX.exit_then ?_
    refine QX.exit_then ?_
    refine QX.exit_hit ?_
    refine QX.then_ ?_
    refine WC.seq ?_
    refine WC.region ?_
    refine SL.pure rfl rfl rfl (PureOp.move rfl) ?_
    refine SL.pure rfl rfl rfl (PureOp.assign rfl) ?_
    refine SL.nil_then ?_
    refine WC.ret ?_
    refine QX.ret1 rfl rfl ?_
    intro w hw
    have e : l.take k = l := List.take_of_length_le (by omega)
    have q : k = n := by omega
    subst q
    have h := hw.mem (i := 1) rfl
    rw [e] at h
    exact ⟨a, c, rfl, h⟩

set_option maxHeartbeats 4000000 in
set_option maxRecDepth 100000 in
theorem utcZ_ok (o : Int) (l : List Sh) (ao : Option Addr) (n cap : Nat) (hn : n = l.length) (w0 : World) (hz : SliceIn w0 2 ao n cap (rowsF encS l)) (x : Int) (hv : Vd none l) (ho : -840 ≤ o ∧ o ≤ 840) (hnb : n ≤ 1000) (hx : -1099511627776 ≤ x ∧ x ≤ 1099511627776) : FnC Try.prog 13 [.agg #[.int .i64 o, .slice ao n cap], .int .i64 x] w0 fun v _ => v = .int .i64 (utcR (x - o) l x) := by
  refine fnc (N := 28) Try.func13 rfl rfl rfl ?_
  refine WC.seq ?_
  refine WC.region ?_
  refine SL.box rfl rfl rfl (fun b1 hb1 => ?_)
  refine SL.pure rfl rfl rfl (PureOp.assign rfl) ?_
  refine SL.nil_then ?_
  refine WC.seq ?_
  refine WC.region ?_
  refine SL.pure rfl rfl rfl (PureOp.assign rfl) ?_
  refine SL.nil_then ?_
  refine WC.seq ?_
  refine WC.seq ?_
  refine WC.region ?_
  refine SL.pure rfl rfl rfl (PureOp.loads Try.underlying24 rfl rfl (fun _ => (RowIs.cells 0 0 2 rfl rfl)) sz24) ?_
  refine SL.callo (fun a c => .slice a (n + 1) c) rfl rfl rfl rfl rfl rfl callable21 (fun w hw => spans_ok o l ao n cap hn w (hz.below hw.below) hnb) (fun so sc => ?_)
  refine SL.pure rfl rfl rfl (PureOp.len rfl Try.underlying35) ?_
  refine SL.pure rfl rfl rfl (PureOp.move rfl) ?_
  refine SL.nil_then ?_
  refine WC.block ?_
  refine WC.loop (σ := Nat × Int) (fun s => [(2, 0, .pointer (some ⟨b1, 0, none⟩)), (1, 0, .int .i64 x), (9, 0, .slice so (n + 1) sc), (10, 0, .int .i64 (n + 1 : Nat)), (11, 0, .int .i64 (s.1 : Nat)), (5, 0, .int .i64 s.2)]) (fun _ => [Item.cells b1 [.int .i64 o, .slice ao n cap] 24, .own w0.heap.size so (n + 1) sc 38 3 (cellsOf encP (spansF minI o l))]) (fun s => s.1 ≤ n + 1 ∧ utcS s.2 ((spansF minI o l).drop s.1) x = utcS 0 (spansF minI o l) x) (fun s => n + 1 - s.1) 2 ((0, 0)) (⟨Nat.zero_le _, rfl⟩) ⟨rfl, rfl, rfl, rfl, rfl, rfl, rfl, rfl, rfl, rfl, rfl, rfl, trivial⟩ rfl ?_
  rintro ⟨k, a⟩ ⟨hk, hI⟩
  dsimp only at hk hI ⊢
  refine WC.seq ?_
  refine WC.region ?_
  refine SL.pure rfl rfl rfl (PureOp.lss rfl rfl) ?_
  refine SL.nil_then ?_
  refine WC.seq ?_
  refine WC.cond rfl (fun h1 => ?_) (fun h1 => ?_)
  · simp only [Bool.and_eq_true, Bool.or_eq_true, Bool.not_eq_true', Bool.not_eq_false', Bool.and_eq_false_iff, Bool.or_eq_false_iff, decide_eq_true_eq, decide_eq_false_iff_not, Int.not_lt, Int.not_le, ne_eq, Decidable.not_not] at h1
    refine WC.skip ?_
    refine QX.then_ ?_
    refine WC.seq ?_
    refine WC.block ?_
    refine WC.seq ?_
    refine WC.region ?_
    refine SL.pure rfl rfl rfl (PureOp.indexAddrN Try.underlying35 sz38 rfl rfl (AoOk.own 1 rfl) (fun _ => by (first | omega | (have q := spans_bd l minI o none hv ho.1 ho.2 k; omega)))) ?_
    refine SL.pure rfl rfl rfl (PureOp.loads Try.underlying38 rfl rfl (fun _ => (RowIs.ownc 1 rfl k 0 3 (rowsF encP (spansF minI o l) k) (fun j hj => cellsOf_get encP_len _ _ _ (by rw [spansF_length]; omega) (by omega)))) sz38) ?_
    refine SL.alloc rfl rfl zero38 (fun b2 hb2 => ?_)
    refine SL.store 2 rfl rfl rfl rfl sz38 rfl rfl ?_
    refine SL.nil_then ?_
    refine WC.seq ?_
    refine WC.region ?_
    refine SL.pure rfl rfl rfl (PureOp.fieldAddrT 0 Try.underlying38 rfl sz3 rfl rfl) ?_
    refine SL.pure rfl rfl rfl (PureOp.load Try.underlying3 rfl rfl (fun _ => (CellIs.cells 2 rfl rfl))) ?_
    refine SL.pure rfl rfl rfl (PureOp.move rfl) ?_
    refine SL.pure rfl rfl rfl (PureOp.fieldAddrT 2 Try.underlying38 rfl sz3 rfl rfl) ?_
    refine SL.pure rfl rfl rfl (PureOp.load Try.underlying3 rfl rfl (fun _ => (CellIs.cells 2 rfl rfl))) ?_
    refine SL.pure rfl rfl rfl (PureOp.sub rfl rfl (fun _ => by (first | omega | (have q := spans_bd l minI o none hv ho.1 ho.2 k; omega)))) ?_
    refine SL.pure rfl rfl rfl (PureOp.max_ rfl rfl) ?_
    refine SL.pure rfl rfl rfl (PureOp.assign rfl) ?_
    refine SL.nil_then ?_
    refine WC.seq ?_
    refine WC.region ?_
    refine SL.pure rfl rfl rfl (PureOp.move rfl) ?_
    refine SL.pure rfl rfl rfl (PureOp.fieldAddrT 1 Try.underlying38 rfl sz3 rfl rfl) ?_
    refine SL.pure rfl rfl rfl (PureOp.load Try.underlying3 rfl rfl (fun _ => (CellIs.cells 2 rfl rfl))) ?_
    refine SL.pure rfl rfl rfl (PureOp.lss rfl rfl) ?_
    refine SL.nil_then ?_
    refine WC.cond rfl (fun h2 => ?_) (fun h2 => ?_)
    · simp only [Bool.and_eq_true, Bool.or_eq_true, Bool.not_eq_true', Bool.not_eq_false', Bool.and_eq_false_iff, Bool.or_eq_false_iff, decide_eq_true_eq, decide_eq_false_iff_not, Int.not_lt, Int.not_le, ne_eq, Decidable.not_not] at h2
      refine WC.exit ?_
      refine QX.exit_miss rfl ?_
      refine QX.exit_then ?_
      refine QX.exit_then ?_
      refine QX.exit_hit ?_
      refine QX.then_ ?_
      refine WC.seq ?_
      refine WC.region ?_
      refine SL.pure rfl rfl rfl (PureOp.move rfl) ?_
      refine SL.pure rfl rfl rfl (PureOp.assign rfl) ?_
      refine SL.nil_then ?_
      refine WC.ret ?_
      refine QX.ret1 rfl rfl ?_
      intro w hw
      have e := drop_nth (l := spansF minI o l) (i := k) (by rw [spansF_length]; omega)
      rw [← utc_eq0 l o x none hv (by omega) (by omega) ho.1 ho.2, ← hI, e]
      simp only [utcS]
      rw [if_pos (by omega)]
    · simp only [Bool.and_eq_true, Bool.or_eq_true, Bool.not_eq_true', Bool.not_eq_false', Bool.and_eq_false_iff, Bool.or_eq_false_iff, decide_eq_true_eq, decide_eq_false_iff_not, Int.not_lt, Int.not_le, ne_eq, Decidable.not_not] at h2
      refine WC.skip ?_
      refine QX.normal_in ?_
      refine QX.then_ ?_
      refine WC.region ?_
      refine SL.pure rfl rfl rfl (PureOp.add rfl rfl (fun _ => by (first | omega | (have q := spans_bd l minI o none hv ho.1 ho.2 k; omega)))) ?_
      refine SL.pure rfl rfl rfl (PureOp.move rfl) ?_
      refine SL.nil ?_
      have e := drop_nth (l := spansF minI o l) (i := k) (by rw [spansF_length]; omega)
      refine QX.round (s := (k, a)) (μ := fun s => n + 1 - s.1) 2 (k + 1, _) ⟨⟨by show k + 1 ≤ n + 1; omega, ?_⟩, by show n + 1 - (k + 1) < n + 1 - k; omega⟩ ⟨rfl, rfl, rfl, rfl, rfl, rfl, rfl, rfl, rfl, rfl, rfl, rfl, trivial⟩ rfl
      rw [← hI, e]
      simp only [utcS]
      first | rw [if_pos (by omega)] | rw [if_neg (by omega)]
  · simp only [Bool.and_eq_true, Bool.or_eq_true, Bool.not_eq_true', Bool.not_eq_false', Bool.and_eq_false_iff, Bool.or_eq_false_iff, decide_eq_true_eq, decide_eq_false_iff_not, Int.not_lt, Int.not_le, ne_eq, Decidable.not_not] at h1
    refine WC.exit ?_
    refine QX.exit_then ?_
    refine QX.exit_then ?_
    refine QX.exit_hit ?_
    refine QX.then_ ?_
    refine WC.seq ?_
    refine WC.region ?_
    refine SL.pure rfl rfl rfl (PureOp.move rfl) ?_
    refine SL.pure rfl rfl rfl (PureOp.assign rfl) ?_
    refine SL.nil_then ?_
    refine WC.ret ?_
    refine QX.ret1 rfl rfl ?_
    intro w hw
    have e : (spansF minI o l).drop k = [] := List.drop_eq_nil_of_le (by rw [spansF_length]; omega)
    rw [← utc_eq0 l o x none hv (by omega) (by omega) ho.1 ho.2, ← hI, e]
    rfl

set_option maxHeartbeats 4000000 in
set_option maxRecDepth 100000 in
theorem timesZ_ok (o : Int) (l : List Sh) (ao : Option Addr) (n cap : Nat) (hn : n = l.length) (w0 : World) (hz : SliceIn w0 2 ao n cap (rowsF encS l)) (x : Int) (hv : Vd none l) (ho : -840 ≤ o ∧ o ≤ 840) (hnb : n ≤ 1000) (hx : -1099511627776 ≤ x ∧ x ≤ 1099511627776) : FnC Try.prog 22 [.agg #[.int .i64 o, .slice ao n cap], .int .i64 x] w0 fun v _ => v = .int .i64 (timesR0 o l x) := by
  refine fnc (N := 34) Try.func22 rfl rfl rfl ?_
  refine WC.seq ?_
  refine WC.region ?_
  refine SL.box rfl rfl rfl (fun b1 hb1 => ?_)
  refine SL.pure rfl rfl rfl (PureOp.assign rfl) ?_
  refine SL.nil_then ?_
  refine WC.seq ?_
  refine WC.region ?_
  refine SL.pure rfl rfl rfl (PureOp.assign rfl) ?_
  refine SL.nil_then ?_
  refine WC.seq ?_
  refine WC.seq ?_
  refine WC.region ?_
  refine SL.pure rfl rfl rfl (PureOp.loads Try.underlying24 rfl rfl (fun _ => (RowIs.cells 0 0 2 rfl rfl)) sz24) ?_
  refine SL.callo (fun a c => .slice a (n + 1) c) rfl rfl rfl rfl rfl rfl callable21 (fun w hw => spans_ok o l ao n cap hn w (hz.below hw.below) hnb) (fun so sc => ?_)
  refine SL.pure rfl rfl rfl (PureOp.len rfl Try.underlying35) ?_
  refine SL.pure rfl rfl rfl (PureOp.move rfl) ?_
  refine SL.nil_then ?_
  refine WC.block ?_
  refine WC.loop (σ := Nat × Int) (fun s => [(2, 0, .pointer (some ⟨b1, 0, none⟩)), (1, 0, .int .i64 x), (10, 0, .slice so (n + 1) sc), (11, 0, .int .i64 (n + 1 : Nat)), (12, 0, .int .i64 (s.1 : Nat)), (5, 0, .int .i64 s.2)]) (fun _ => [Item.cells b1 [.int .i64 o, .slice ao n cap] 24, .own w0.heap.size so (n + 1) sc 38 3 (cellsOf encP (spansF minI o l))]) (fun s => s.1 ≤ n + 1 ∧ timesS s.2 ((spansF minI o l).drop s.1) x = timesS 0 (spansF minI o l) x ∧ 0 ≤ s.2 ∧ s.2 ≤ s.1) (fun s => n + 1 - s.1) 2 ((0, 0)) (⟨Nat.zero_le _, rfl, by simp, by simp⟩) ⟨rfl, rfl, rfl, rfl, rfl, rfl, rfl, rfl, rfl, rfl, rfl, rfl, trivial⟩ rfl ?_
  rintro ⟨k, a⟩ ⟨hk, hI⟩
  dsimp only at hk hI ⊢
  refine WC.seq ?_
  refine WC.region ?_
  refine SL.pure rfl rfl rfl (PureOp.lss rfl rfl) ?_
  refine SL.nil_then ?_
  refine WC.seq ?_
  refine WC.cond rfl (fun h1 => ?_) (fun h1 => ?_)
  · simp only [Bool.and_eq_true, Bool.or_eq_true, Bool.not_eq_true', Bool.not_eq_false', Bool.and_eq_false_iff, Bool.or_eq_false_iff, decide_eq_true_eq, decide_eq_false_iff_not, Int.not_lt, Int.not_le, ne_eq, Decidable.not_not] at h1
    refine WC.skip ?_
    refine QX.then_ ?_
    refine WC.seq ?_
    refine WC.block ?_
    refine WC.seq ?_
    refine WC.region ?_
    refine SL.pure rfl rfl rfl (PureOp.indexAddrN Try.underlying35 sz38 rfl rfl (AoOk.own 1 rfl) (fun _ => by (first | omega | (have q := spans_bd l minI o none hv ho.1 ho.2 k; omega)))) ?_
    refine SL.pure rfl rfl rfl (PureOp.loads Try.underlying38 rfl rfl (fun _ => (RowIs.ownc 1 rfl k 0 3 (rowsF encP (spansF minI o l) k) (fun j hj => cellsOf_get encP_len _ _ _ (by rw [spansF_length]; omega) (by omega)))) sz38) ?_
    refine SL.alloc rfl rfl zero38 (fun b2 hb2 => ?_)
    refine SL.store 2 rfl rfl rfl rfl sz38 rfl rfl ?_
    refine SL.nil_then ?_
    refine WC.seq ?_
    refine WC.region ?_
    refine SL.pure rfl rfl rfl (PureOp.move rfl) ?_
    refine SL.pure rfl rfl rfl (PureOp.fieldAddrT 2 Try.underlying38 rfl sz3 rfl rfl) ?_
    refine SL.pure rfl rfl rfl (PureOp.load Try.underlying3 rfl rfl (fun _ => (CellIs.cells 2 rfl rfl))) ?_
    refine SL.pure rfl rfl rfl (PureOp.sub rfl rfl (fun _ => by (first | omega | (have q := spans_bd l minI o none hv ho.1 ho.2 k; omega)))) ?_
    refine SL.pure rfl rfl rfl (PureOp.assign rfl) ?_
    refine SL.nil_then ?_
    refine WC.seq ?_
    refine WC.region ?_
    refine SL.pure rfl rfl rfl (PureOp.move rfl) ?_
    refine SL.pure rfl rfl rfl (PureOp.fieldAddrT 0 Try.underlying38 rfl sz3 rfl rfl) ?_
    refine SL.pure rfl rfl rfl (PureOp.load Try.underlying3 rfl rfl (fun _ => (CellIs.cells 2 rfl rfl))) ?_
    refine SL.pure rfl rfl rfl (PureOp.geq rfl rfl) ?_
    refine SL.pure rfl rfl rfl (PureOp.move rfl) ?_
    refine SL.newg 24 true rfl ?_
    refine SL.gpure (c := 1) rfl rfl rfl rfl rfl rfl rfl (PureOp.move rfl) ?_
    refine SL.gpure (c := 1) rfl rfl rfl rfl rfl rfl rfl (PureOp.fieldAddrT 1 Try.underlying38 rfl sz3 rfl rfl) ?_
    refine SL.gpure (c := 1) rfl rfl rfl rfl rfl rfl rfl (PureOp.load Try.underlying3 rfl rfl (fun _ => (CellIs.cells 2 rfl rfl))) ?_
    refine SL.gpure (c := 1) rfl rfl rfl rfl rfl rfl rfl (PureOp.lss rfl rfl) ?_
    refine SL.pure rfl rfl rfl (PureOp.and_ rfl rfl rfl rfl) ?_
    refine SL.nil_then ?_
    refine WC.cond rfl (fun h2 => ?_) (fun h2 => ?_)
    · simp only [Bool.and_eq_true, Bool.or_eq_true, Bool.not_eq_true', Bool.not_eq_false', Bool.and_eq_false_iff, Bool.or_eq_false_iff, decide_eq_true_eq, decide_eq_false_iff_not, Int.not_lt, Int.not_le, ne_eq, Decidable.not_not] at h2
      refine WC.region ?_
      refine SL.pure rfl rfl rfl (PureOp.move rfl) ?_
      refine SL.pure rfl rfl rfl (PureOp.add rfl rfl (fun _ => by (first | omega | (have q := spans_bd l minI o none hv ho.1 ho.2 k; omega)))) ?_
      refine SL.pure rfl rfl rfl (PureOp.assign rfl) ?_
      refine SL.nil ?_
      refine QX.normal_in ?_
      refine QX.then_ ?_
      refine WC.region ?_
      refine SL.pure rfl rfl rfl (PureOp.add rfl rfl (fun _ => by (first | omega | (have q := spans_bd l minI o none hv ho.1 ho.2 k; omega)))) ?_
      refine SL.pure rfl rfl rfl (PureOp.move rfl) ?_
      refine SL.nil ?_
      have e := drop_nth (l := spansF minI o l) (i := k) (by rw [spansF_length]; omega)
      obtain ⟨hI, ha, hb⟩ := hI
      refine QX.round (s := (k, a)) (μ := fun s => n + 1 - s.1) 2 (k + 1, _) ⟨⟨by show k + 1 ≤ n + 1; omega, ?_, by show (0 : Int) ≤ _; omega, by show _ ≤ ((k + 1 : Nat) : Int); omega⟩, by show n + 1 - (k + 1) < n + 1 - k; omega⟩ ⟨rfl, rfl, rfl, rfl, rfl, rfl, rfl, rfl, rfl, rfl, rfl, rfl, trivial⟩ rfl
      rw [← hI, e]
      simp only [timesS]
      first | rw [if_pos (by omega)] | rw [if_neg (by omega)]
    · simp only [Bool.and_eq_true, Bool.or_eq_true, Bool.not_eq_true', Bool.not_eq_false', Bool.and_eq_false_iff, Bool.or_eq_false_iff, decide_eq_true_eq, decide_eq_false_iff_not, Int.not_lt, Int.not_le, ne_eq, Decidable.not_not] at h2
      refine WC.skip ?_
      refine QX.normal_in ?_
      refine QX.then_ ?_
      refine WC.region ?_
      refine SL.pure rfl rfl rfl (PureOp.add rfl rfl (fun _ => by (first | omega | (have q := spans_bd l minI o none hv ho.1 ho.2 k; omega)))) ?_
      refine SL.pure rfl rfl rfl (PureOp.move rfl) ?_
      refine SL.nil ?_
      have e := drop_nth (l := spansF minI o l) (i := k) (by rw [spansF_length]; omega)
      obtain ⟨hI, ha, hb⟩ := hI
      refine QX.round (s := (k, a)) (μ := fun s => n + 1 - s.1) 2 (k + 1, _) ⟨⟨by show k + 1 ≤ n + 1; omega, ?_, by show (0 : Int) ≤ _; omega, by show _ ≤ ((k + 1 : Nat) : Int); omega⟩, by show n + 1 - (k + 1) < n + 1 - k; omega⟩ ⟨rfl, rfl, rfl, rfl, rfl, rfl, rfl, rfl, rfl, rfl, rfl, rfl, trivial⟩ rfl
      rw [← hI, e]
      simp only [timesS]
      first | rw [if_pos (by omega)] | rw [if_neg (by omega)]
  · simp only [Bool.and_eq_true, Bool.or_eq_true, Bool.not_eq_true', Bool.not_eq_false', Bool.and_eq_false_iff, Bool.or_eq_false_iff, decide_eq_true_eq, decide_eq_false_iff_not, Int.not_lt, Int.not_le, ne_eq, Decidable.not_not] at h1
    refine WC.exit ?_
    refine QX.exit_then ?_
    refine QX.exit_then ?_
    refine QX.exit_hit ?_
    refine QX.then_ ?_
    refine WC.seq ?_
    refine WC.region ?_
    refine SL.pure rfl rfl rfl (PureOp.move rfl) ?_
    refine SL.pure rfl rfl rfl (PureOp.assign rfl) ?_
    refine SL.nil_then ?_
    refine WC.ret ?_
    refine QX.ret1 rfl rfl ?_
    intro w hw
    obtain ⟨hI, ha, hb⟩ := hI
    have e : (spansF minI o l).drop k = [] := List.drop_eq_nil_of_le (by rw [spansF_length]; omega)
    rw [← times_eq0 l o x none hv (by omega) (by omega) ho.1 ho.2, ← hI, e]
    rfl

set_option maxHeartbeats 4000000 in
set_option maxRecDepth 100000 in
theorem exZ_ok (o : Int) (l : List Sh) (ao : Option Addr) (n cap : Nat) (hn : n = l.length) (w0 : World) (hz : SliceIn w0 2 ao n cap (rowsF encS l)) (x : Int) (hv : Vd none l) (ho : -840 ≤ o ∧ o ≤ 840) (hnb : n ≤ 1000) (hx : -1099511627776 ≤ x ∧ x ≤ 1099511627776) : FnC Try.prog 15 [.agg #[.int .i64 o, .slice ao n cap], .int .i64 x] w0 fun v _ => v = .bool (decide (0 < timesR0 o l x)) := by
  refine fnc (N := 9) Try.func15 rfl rfl rfl ?_
  refine WC.seq ?_
  refine WC.region ?_
  refine SL.box rfl rfl rfl (fun b1 hb1 => ?_)
  refine SL.pure rfl rfl rfl (PureOp.assign rfl) ?_
  refine SL.nil_then ?_
  refine WC.seq ?_
  refine WC.region ?_
  refine SL.pure rfl rfl rfl (PureOp.loads Try.underlying24 rfl rfl (fun _ => (RowIs.cells 0 0 2 rfl rfl)) sz24) ?_
  refine SL.pure rfl rfl rfl (PureOp.move rfl) ?_
  refine SL.calle rfl rfl rfl rfl rfl rfl callable22 (fun w hw => timesZ_ok o l ao n cap hn w (hz.below hw.below) x hv ho hnb hx) ?_
  refine SL.pure rfl rfl rfl (PureOp.gtr rfl rfl) ?_
  refine SL.pure rfl rfl rfl (PureOp.assign rfl) ?_
  refine SL.nil_then ?_
  refine WC.ret ?_
  refine QX.ret1 rfl rfl ?_
  intro w hw
  rfl

set_option maxHeartbeats 4000000 in
set_option maxRecDepth 100000 in
theorem exR_ok (o : Int) (l : List Sh) (ao : Option Addr) (n cap : Nat) (hn : n = l.length) (w0 : World) (hz : SliceIn w0 2 ao n cap (rowsF encS l)) (x : Int) (hv : Vd none l) (ho : -840 ≤ o ∧ o ≤ 840) (hnb : n ≤ 1000) (hx : -1099511627776 ≤ x ∧ x ≤ 1099511627776) : FnC Try.prog 16 [.agg #[.int .i64 o, .slice ao n cap], .int .i64 x] w0 fun v _ => v = .bool (decide (0 < timesR0 o l x)) := by
  refine fnc (N := 9) Try.func16 rfl rfl rfl ?_
  refine WC.seq ?_
  refine WC.region ?_
  refine SL.box rfl rfl rfl (fun b1 hb1 => ?_)
  refine SL.pure rfl rfl rfl (PureOp.assign rfl) ?_
  refine SL.nil_then ?_
  refine WC.seq ?_
  refine WC.region ?_
  refine SL.pure rfl rfl rfl (PureOp.loads Try.underlying24 rfl rfl (fun _ => (RowIs.cells 0 0 2 rfl rfl)) sz24) ?_
  refine SL.pure rfl rfl rfl (PureOp.move rfl) ?_
  refine SL.calle rfl rfl rfl rfl rfl rfl callable23 (fun w hw => timesR_ok o l ao n cap hn w (hz.below hw.below) x hv ho hnb hx) ?_
  refine SL.pure rfl rfl rfl (PureOp.gtr rfl rfl) ?_
  refine SL.pure rfl rfl rfl (PureOp.assign rfl) ?_
  refine SL.nil_then ?_
  refine WC.ret ?_
  refine QX.ret1 rfl rfl ?_
  intro w hw
  rfl

set_option maxHeartbeats 4000000 in
set_option maxRecDepth 100000 in
theorem twZ_ok (o : Int) (l : List Sh) (ao : Option Addr) (n cap : Nat) (hn : n = l.length) (w0 : World) (hz : SliceIn w0 2 ao n cap (rowsF encS l)) (x : Int) (hv : Vd none l) (ho : -840 ≤ o ∧ o ≤ 840) (hnb : n ≤ 1000) (hx : -1099511627776 ≤ x ∧ x ≤ 1099511627776) : FnC Try.prog 17 [.agg #[.int .i64 o, .slice ao n cap], .int .i64 x] w0 fun v _ => v = .bool (decide (1 < timesR0 o l x)) := by
  refine fnc (N := 9) Try.func17 rfl rfl rfl ?_
  refine WC.seq ?_
  refine WC.region ?_
  refine SL.box rfl rfl rfl (fun b1 hb1 => ?_)
  refine SL.pure rfl rfl rfl (PureOp.assign rfl) ?_
  refine SL.nil_then ?_
  refine WC.seq ?_
  refine WC.region ?_
  refine SL.pure rfl rfl rfl (PureOp.loads Try.underlying24 rfl rfl (fun _ => (RowIs.cells 0 0 2 rfl rfl)) sz24) ?_
  refine SL.pure rfl rfl rfl (PureOp.move rfl) ?_
  refine SL.calle rfl rfl rfl rfl rfl rfl callable22 (fun w hw => timesZ_ok o l ao n cap hn w (hz.below hw.below) x hv ho hnb hx) ?_
  refine SL.pure rfl rfl rfl (PureOp.gtr rfl rfl) ?_
  refine SL.pure rfl rfl rfl (PureOp.assign rfl) ?_
  refine SL.nil_then ?_
  refine WC.ret ?_
  refine QX.ret1 rfl rfl ?_
  intro w hw
  rfl

set_option maxHeartbeats 4000000 in
set_option maxRecDepth 100000 in
theorem twR_ok (o : Int) (l : List Sh) (ao : Option Addr) (n cap : Nat) (hn : n = l.length) (w0 : World) (hz : SliceIn w0 2 ao n cap (rowsF encS l)) (x : Int) (hv : Vd none l) (ho : -840 ≤ o ∧ o ≤ 840) (hnb : n ≤ 1000) (hx : -1099511627776 ≤ x ∧ x ≤ 1099511627776) : FnC Try.prog 18 [.agg #[.int .i64 o, .slice ao n cap], .int .i64 x] w0 fun v _ => v = .bool (decide (1 < timesR0 o l x)) := by
  refine fnc (N := 9) Try.func18 rfl rfl rfl ?_
  refine WC.seq ?_
  refine WC.region ?_
  refine SL.box rfl rfl rfl (fun b1 hb1 => ?_)
  refine SL.pure rfl rfl rfl (PureOp.assign rfl) ?_
  refine SL.nil_then ?_
  refine WC.seq ?_
  refine WC.region ?_
  refine SL.pure rfl rfl rfl (PureOp.loads Try.underlying24 rfl rfl (fun _ => (RowIs.cells 0 0 2 rfl rfl)) sz24) ?_
  refine SL.pure rfl rfl rfl (PureOp.move rfl) ?_
  refine SL.calle rfl rfl rfl rfl rfl rfl callable23 (fun w hw => timesR_ok o l ao n cap hn w (hz.below hw.below) x hv ho hnb hx) ?_
  refine SL.pure rfl rfl rfl (PureOp.gtr rfl rfl) ?_
  refine SL.pure rfl rfl rfl (PureOp.assign rfl) ?_
  refine SL.nil_then ?_
  refine WC.ret ?_
  refine QX.ret1 rfl rfl ?_
  intro w hw
  rfl

end Go.Proofs.Ytocegpfmoiokeaa
