import Derived.Test.YthbgnjengkjigaaBdB
namespace Go.Proofs.Ythbgnjengkjigaa
open Go Go.RowKit Eng
set_option linter.unusedVariables false
set_option linter.unusedSimpArgs false

set_option maxHeartbeats 4000000 in
set_option maxRecDepth 100000 in
theorem pfind_ok (b : Nat) (T R : List Int) (A : List Bool) (cl : Bool) (G : List Bag) (ta ra aa ga : Option Addr) (n tc rc ac gc : Nat) (hM : Made T R) (hn : n = T.length) (hR : R.length = n) (h9 : n ≤ 999) (hA : A.length = n) (hK : Known T G) (hG : G.length ≤ 500) (t : Int) (w0 : World) (ho : ObjIn w0 b [.bool true, .bool cl, .slice ta n tc, .slice ra n rc, .slice aa n ac, .slice ga G.length gc]) (sT : SliceIn w0 1 ta n tc (rowsF encI T)) (sR : SliceIn w0 1 ra n rc (rowsF encI R)) (sA : SliceIn w0 1 aa n ac (rowsF encBo A)) (sG : SliceIn w0 3 ga G.length gc (rowsF encBag G)) : FnC Try.prog 27 [.pointer (some ⟨b, 0, none⟩), .int .i64 t] w0 fun v w' => v = .int .i64 (ixT T t) := by
  refine fnc (N := 13) Try.func27 rfl rfl rfl ?_
  refine WC.seq ?_
  refine WC.region ?_
  refine SL.pure rfl rfl rfl (PureOp.assign rfl) ?_
  refine SL.nil_then ?_
  refine WC.seq ?_
  refine WC.seq ?_
  refine WC.region ?_
  refine SL.pure rfl rfl rfl (PureOp.move rfl) ?_
  refine SL.pure rfl rfl rfl (PureOp.eqlpnil1 rfl rfl Try.underlying23) ?_
  refine SL.nil_then ?_
  refine WC.condF rfl ?_
  refine WC.skip ?_
  refine QX.then_ ?_
  refine WC.seq ?_
  refine WC.region ?_
  refine SL.pure rfl rfl rfl (PureOp.move rfl) ?_
  refine SL.pure rfl rfl rfl (PureOp.nilCheckp rfl) ?_
  refine SL.pure rfl rfl rfl (PureOp.fieldAddrT 2 Try.underlying44 rfl sz22 rfl rfl) ?_
  refine SL.pure rfl rfl rfl (PureOp.load (v := .slice ta n tc) Try.underlying22 rfl rfl (fun _ => (ho.cell 2 rfl))) ?_
  refine SL.pure rfl rfl rfl (PureOp.move rfl) ?_
  refine SL.calle rfl rfl rfl rfl rfl rfl callable42 (fun w hw => index_ok T ta n tc hn (by omega) t w (sT.below hw.below)) ?_
  refine SL.norm [] rfl ?_
  refine SL.pure rfl rfl rfl (PureOp.assign rfl) ?_
  refine SL.nil_then ?_
  refine WC.ret ?_
  refine QX.ret1 rfl rfl ?_
  intro w hw
  rfl

set_option maxHeartbeats 4000000 in
set_option maxRecDepth 100000 in
theorem rfind_ok (b : Nat) (T R : List Int) (A : List Bool) (cl : Bool) (G : List Bag) (ta ra aa ga : Option Addr) (n tc rc ac gc : Nat) (hM : Made T R) (hn : n = T.length) (hR : R.length = n) (h9 : n ≤ 999) (hA : A.length = n) (hK : Known T G) (hG : G.length ≤ 500) (t : Int) (w0 : World) (ho : ObjIn w0 b [.slice ta n tc, .slice ra n rc, .slice aa n ac, .slice ga G.length gc, .bool true, .bool cl]) (sT : SliceIn w0 1 ta n tc (rowsF encI T)) (sR : SliceIn w0 1 ra n rc (rowsF encI R)) (sA : SliceIn w0 1 aa n ac (rowsF encBo A)) (sG : SliceIn w0 3 ga G.length gc (rowsF encBag G)) : FnC Try.prog 35 [.pointer (some ⟨b, 0, none⟩), .int .i64 t] w0 fun v w' => v = .int .i64 (ixT T t) := by
  refine fnc (N := 25) Try.func35 rfl rfl rfl ?_
  refine WC.seq ?_
  refine WC.region ?_
  refine SL.pure rfl rfl rfl (PureOp.assign rfl) ?_
  refine SL.nil_then ?_
  refine WC.seq ?_
  refine WC.seq ?_
  refine WC.region ?_
  refine SL.pure rfl rfl rfl (PureOp.assign rfl) ?_
  refine SL.nil_then ?_
  refine WC.block ?_
  refine WC.loop (σ := Nat) (fun q_ => [(0, 0, .pointer (some ⟨b, 0, none⟩)), (1, 0, .int .i64 t), (5, 0, .int .i64 ((q_ : Nat) : Int))]) (fun q_ => []) (fun q_ => q_ ≤ n ∧ ∀ j, j < q_ → decide (nth T j = t) = false) (fun q_ => n - q_) 0 (0) (⟨Nat.zero_le _, fun _ h => absurd h (Nat.not_lt_zero _)⟩) ⟨rfl, rfl, rfl, rfl, rfl, rfl, trivial⟩ rfl ?_
  rintro k ⟨hk, ha⟩
  refine WC.seq ?_
  refine WC.seq ?_
  refine WC.region ?_
  refine SL.pure rfl rfl rfl (PureOp.move rfl) ?_
  refine SL.pure rfl rfl rfl (PureOp.move rfl) ?_
  refine SL.pure rfl rfl rfl (PureOp.nilCheckp rfl) ?_
  refine SL.pure rfl rfl rfl (PureOp.fieldAddrT 0 Try.underlying59 rfl sz22 rfl rfl) ?_
  refine SL.pure rfl rfl rfl (PureOp.load (v := .slice ta n tc) Try.underlying22 rfl rfl (fun _ => (ho.cell 0 rfl))) ?_
  refine SL.pure rfl rfl rfl (PureOp.len rfl Try.underlying22) ?_
  refine SL.pure rfl rfl rfl (PureOp.lss rfl rfl) ?_
  refine SL.nil_then ?_
  refine WC.cond rfl (fun h1 => ?_) (fun h1 => ?_)
  · try simp only [Bool.and_eq_true, Bool.or_eq_true, Bool.not_eq_true', Bool.not_eq_false', Bool.and_eq_false_iff, Bool.or_eq_false_iff, decide_eq_true_eq, decide_eq_false_iff_not, Int.not_lt, Int.not_le, ne_eq, Decidable.not_not] at h1
    refine WC.skip ?_
    refine QX.then_ ?_
    refine WC.seq ?_
    refine WC.block ?_
    refine WC.seq ?_
    refine WC.region ?_
    refine SL.pure rfl rfl rfl (PureOp.move rfl) ?_
    refine SL.pure rfl rfl rfl (PureOp.nilCheckp rfl) ?_
    refine SL.pure rfl rfl rfl (PureOp.fieldAddrT 0 Try.underlying59 rfl sz22 rfl rfl) ?_
    refine SL.pure rfl rfl rfl (PureOp.load (v := .slice ta n tc) Try.underlying22 rfl rfl (fun _ => (ho.cell 0 rfl))) ?_
    refine SL.pure rfl rfl rfl (PureOp.move rfl) ?_
    refine SL.pure rfl rfl rfl (PureOp.indexAddrN Try.underlying22 sz3 rfl rfl (AoOk.in_ sT) (fun _ => by omega)) ?_
    refine SL.pure rfl rfl rfl (PureOp.load (v := .int .i64 (nth T k)) Try.underlying3 rfl rfl (fun _ => (CellIs.in_ sT k 0 (by omega) (by omega)))) ?_
    refine SL.pure rfl rfl rfl (PureOp.move rfl) ?_
    refine SL.pure rfl rfl rfl (PureOp.eql rfl rfl) ?_
    refine SL.nil_then ?_
    refine WC.cond rfl (fun h2 => ?_) (fun h2 => ?_)
    · try simp only [Bool.and_eq_true, Bool.or_eq_true, Bool.not_eq_true', Bool.not_eq_false', Bool.and_eq_false_iff, Bool.or_eq_false_iff, decide_eq_true_eq, decide_eq_false_iff_not, Int.not_lt, Int.not_le, ne_eq, Decidable.not_not] at h2
      refine WC.seq ?_
      refine WC.region ?_
      refine SL.pure rfl rfl rfl (PureOp.move rfl) ?_
      refine SL.pure rfl rfl rfl (PureOp.assign rfl) ?_
      refine SL.nil_then ?_
      refine WC.ret ?_
      refine QX.ret_in ?_
      refine QX.ret_then ?_
      refine QX.ret_then ?_
      refine QX.ret_in ?_
      refine QX.ret_then ?_
      refine QX.ret1 rfl rfl ?_
      intro w hw
      refine congrArg (Value.int .i64) ?_
      exact (fnd_hit (by omega) (by simp; omega) ha).symm
    · try simp only [Bool.and_eq_true, Bool.or_eq_true, Bool.not_eq_true', Bool.not_eq_false', Bool.and_eq_false_iff, Bool.or_eq_false_iff, decide_eq_true_eq, decide_eq_false_iff_not, Int.not_lt, Int.not_le, ne_eq, Decidable.not_not] at h2
      refine WC.skip ?_
      refine QX.normal_in ?_
      refine QX.then_ ?_
      refine WC.region ?_
      refine SL.pure rfl rfl rfl (PureOp.move rfl) ?_
      refine SL.pure rfl rfl rfl (PureOp.addN (k := 1) rfl rfl (fun _ => by omega)) ?_
      refine SL.pure rfl rfl rfl (PureOp.assign rfl) ?_
      refine SL.nil ?_
      refine QX.round 0 (k + 1) ⟨⟨(by first | omega | (dsimp only; omega)), fun j hj => by
            by_cases e : j = k
            · subst e; simp; omega
            · exact ha j (by omega)⟩, by first | omega | (dsimp only; omega)⟩ ⟨rfl, rfl, rfl, rfl, rfl, rfl, trivial⟩ rfl
  · try simp only [Bool.and_eq_true, Bool.or_eq_true, Bool.not_eq_true', Bool.not_eq_false', Bool.and_eq_false_iff, Bool.or_eq_false_iff, decide_eq_true_eq, decide_eq_false_iff_not, Int.not_lt, Int.not_le, ne_eq, Decidable.not_not] at h1
    refine WC.exit ?_
    refine QX.exit_then ?_
    refine QX.exit_then ?_
    refine QX.exit_hit ?_
    refine QX.then_ ?_
    refine WC.seq ?_
    refine WC.region ?_
    refine SL.pure rfl rfl rfl (PureOp.assign rfl) ?_
    refine SL.nil_then ?_
    refine WC.ret ?_
    refine QX.ret1 rfl rfl ?_
    intro w hw
    refine congrArg (Value.int .i64) ?_
    obtain rfl : k = n := by omega
    exact (fnd_miss (by rw [← hn]; exact ha)).symm

set_option maxHeartbeats 4000000 in
set_option maxRecDepth 100000 in
theorem popen_ok (b : Nat) (T R : List Int) (A : List Bool) (cl : Bool) (G : List Bag) (ta ra aa ga : Option Addr) (n tc rc ac gc : Nat) (hM : Made T R) (hn : n = T.length) (hR : R.length = n) (h9 : n ≤ 999) (hA : A.length = n) (hK : Known T G) (hG : G.length ≤ 500) (w0 : World) (ho : ObjIn w0 b [.bool true, .bool cl, .slice ta n tc, .slice ra n rc, .slice aa n ac, .slice ga G.length gc]) (sT : SliceIn w0 1 ta n tc (rowsF encI T)) (sR : SliceIn w0 1 ra n rc (rowsF encI R)) (sA : SliceIn w0 1 aa n ac (rowsF encBo A)) (sG : SliceIn w0 3 ga G.length gc (rowsF encBag G)) : FnC Try.prog 38 [.pointer (some ⟨b, 0, none⟩)] w0 fun v w' => v = .int .i64 (if cl = true then 10 else 0) := by
  refine fnc (N := 16) Try.func38 rfl rfl rfl ?_
  refine WC.seq ?_
  refine WC.region ?_
  refine SL.pure rfl rfl rfl (PureOp.assign rfl) ?_
  refine SL.nil_then ?_
  refine WC.seq ?_
  refine WC.seq ?_
  refine WC.region ?_
  refine SL.pure rfl rfl rfl (PureOp.move rfl) ?_
  refine SL.pure rfl rfl rfl (PureOp.eqlpnil1 rfl rfl Try.underlying23) ?_
  refine SL.pure rfl rfl rfl (PureOp.move rfl) ?_
  refine SL.ung rfl rfl rfl rfl ?_
  refine SL.pure rfl rfl rfl (PureOp.move rfl) ?_
  refine SL.ung rfl rfl rfl rfl ?_
  refine SL.pure rfl rfl rfl (PureOp.nilCheckp rfl) ?_
  refine SL.ung rfl rfl rfl rfl ?_
  refine SL.pure rfl rfl rfl (PureOp.fieldAddrT 0 Try.underlying44 rfl sz4 rfl rfl) ?_
  refine SL.ung rfl rfl rfl rfl ?_
  refine SL.pure rfl rfl rfl (PureOp.load (v := .bool true) Try.underlying4 rfl rfl (fun _ => (ho.cell 0 rfl))) ?_
  refine SL.ung rfl rfl rfl rfl ?_
  refine SL.pure rfl rfl rfl (PureOp.not rfl) ?_
  refine SL.pure rfl rfl rfl (PureOp.pickF rfl rfl) ?_
  refine SL.nil_then ?_
  refine WC.condF rfl ?_
  refine WC.skip ?_
  refine QX.then_ ?_
  refine WC.seq ?_
  refine WC.seq ?_
  refine WC.region ?_
  refine SL.pure rfl rfl rfl (PureOp.move rfl) ?_
  refine SL.pure rfl rfl rfl (PureOp.nilCheckp rfl) ?_
  refine SL.pure rfl rfl rfl (PureOp.fieldAddrT 1 Try.underlying44 rfl sz4 rfl rfl) ?_
  refine SL.pure rfl rfl rfl (PureOp.load (v := .bool cl) Try.underlying4 rfl rfl (fun _ => (ho.cell 1 rfl))) ?_
  refine SL.nil_then ?_
  refine WC.cond rfl (fun h1 => ?_) (fun h1 => ?_)
  · try simp only [Bool.and_eq_true, Bool.or_eq_true, Bool.not_eq_true', Bool.not_eq_false', Bool.and_eq_false_iff, Bool.or_eq_false_iff, decide_eq_true_eq, decide_eq_false_iff_not, Int.not_lt, Int.not_le, ne_eq, Decidable.not_not] at h1
    refine WC.seq ?_
    refine WC.region ?_
    refine SL.pure rfl rfl rfl (PureOp.assign rfl) ?_
    refine SL.nil_then ?_
    refine WC.ret ?_
    refine QX.ret_then ?_
    refine QX.ret1 rfl rfl ?_
    intro w hw
    rw [if_pos h1]
  · try simp only [Bool.and_eq_true, Bool.or_eq_true, Bool.not_eq_true', Bool.not_eq_false', Bool.and_eq_false_iff, Bool.or_eq_false_iff, decide_eq_true_eq, decide_eq_false_iff_not, Int.not_lt, Int.not_le, ne_eq, Decidable.not_not] at h1
    refine WC.skip ?_
    refine QX.then_ ?_
    refine WC.seq ?_
    refine WC.region ?_
    refine SL.pure rfl rfl rfl (PureOp.assign rfl) ?_
    refine SL.nil_then ?_
    refine WC.ret ?_
    refine QX.ret1 rfl rfl ?_
    intro w hw
    rw [if_neg (by simp [h1])]

set_option maxHeartbeats 4000000 in
set_option maxRecDepth 100000 in
theorem rnone_ok (b : Nat) (T R : List Int) (A : List Bool) (cl : Bool) (G : List Bag) (ta ra aa ga : Option Addr) (n tc rc ac gc : Nat) (hM : Made T R) (hn : n = T.length) (hR : R.length = n) (h9 : n ≤ 999) (hA : A.length = n) (hK : Known T G) (hG : G.length ≤ 500) (w0 : World) (ho : ObjIn w0 b [.slice ta n tc, .slice ra n rc, .slice aa n ac, .slice ga G.length gc, .bool true, .bool cl]) (sT : SliceIn w0 1 ta n tc (rowsF encI T)) (sR : SliceIn w0 1 ra n rc (rowsF encI R)) (sA : SliceIn w0 1 aa n ac (rowsF encBo A)) (sG : SliceIn w0 3 ga G.length gc (rowsF encBag G)) : FnC Try.prog 34 [.pointer (some ⟨b, 0, none⟩)] w0 fun v w' => v = .bool false := by
  refine fnc (N := 12) Try.func34 rfl rfl rfl ?_
  refine WC.seq ?_
  refine WC.region ?_
  refine SL.pure rfl rfl rfl (PureOp.assign rfl) ?_
  refine SL.nil_then ?_
  refine WC.seq ?_
  refine WC.region ?_
  refine SL.pure rfl rfl rfl (PureOp.move rfl) ?_
  refine SL.pure rfl rfl rfl (PureOp.eqlpnil1 rfl rfl Try.underlying31) ?_
  refine SL.pure rfl rfl rfl (PureOp.move rfl) ?_
  refine SL.ung rfl rfl rfl rfl ?_
  refine SL.pure rfl rfl rfl (PureOp.move rfl) ?_
  refine SL.ung rfl rfl rfl rfl ?_
  refine SL.pure rfl rfl rfl (PureOp.nilCheckp rfl) ?_
  refine SL.ung rfl rfl rfl rfl ?_
  refine SL.pure rfl rfl rfl (PureOp.fieldAddrT 4 Try.underlying59 rfl sz4 rfl rfl) ?_
  refine SL.ung rfl rfl rfl rfl ?_
  refine SL.pure rfl rfl rfl (PureOp.load (v := .bool true) Try.underlying4 rfl rfl (fun _ => (ho.cell 4 rfl))) ?_
  refine SL.ung rfl rfl rfl rfl ?_
  refine SL.pure rfl rfl rfl (PureOp.not rfl) ?_
  refine SL.pure rfl rfl rfl (PureOp.pickF rfl rfl) ?_
  refine SL.pure rfl rfl rfl (PureOp.assign rfl) ?_
  refine SL.nil_then ?_
  refine WC.ret ?_
  refine QX.ret1 rfl rfl ?_
  intro w hw
  rfl

set_option maxHeartbeats 4000000 in
set_option maxRecDepth 100000 in
theorem rready_ok (b : Nat) (T R : List Int) (A : List Bool) (cl : Bool) (G : List Bag) (ta ra aa ga : Option Addr) (n tc rc ac gc : Nat) (hM : Made T R) (hn : n = T.length) (hR : R.length = n) (h9 : n ≤ 999) (hA : A.length = n) (hK : Known T G) (hG : G.length ≤ 500) (w0 : World) (ho : ObjIn w0 b [.slice ta n tc, .slice ra n rc, .slice aa n ac, .slice ga G.length gc, .bool true, .bool cl]) (sT : SliceIn w0 1 ta n tc (rowsF encI T)) (sR : SliceIn w0 1 ra n rc (rowsF encI R)) (sA : SliceIn w0 1 aa n ac (rowsF encBo A)) (sG : SliceIn w0 3 ga G.length gc (rowsF encBag G)) : FnC Try.prog 43 [.pointer (some ⟨b, 0, none⟩)] w0 fun v w' => v = .int .i64 (if cl = true then 10 else 0) := by
  refine fnc (N := 9) Try.func43 rfl rfl rfl ?_
  refine WC.seq ?_
  refine WC.region ?_
  refine SL.pure rfl rfl rfl (PureOp.assign rfl) ?_
  refine SL.nil_then ?_
  refine WC.seq ?_
  refine WC.seq ?_
  refine WC.region ?_
  refine SL.pure rfl rfl rfl (PureOp.move rfl) ?_
  refine SL.calle rfl rfl rfl rfl rfl rfl callable34 (fun w hw => rnone_ok b T R A cl G ta ra aa ga n tc rc ac gc hM hn hR h9 hA hK hG w (ho.below hw.below) (sT.below hw.below) (sR.below hw.below) (sA.below hw.below) (sG.below hw.below)) ?_
  refine SL.norm [] rfl ?_
  refine SL.nil_then ?_
  refine WC.condF rfl ?_
  refine WC.skip ?_
  refine QX.then_ ?_
  refine WC.seq ?_
  refine WC.seq ?_
  refine WC.region ?_
  refine SL.pure rfl rfl rfl (PureOp.move rfl) ?_
  refine SL.pure rfl rfl rfl (PureOp.nilCheckp rfl) ?_
  refine SL.pure rfl rfl rfl (PureOp.fieldAddrT 5 Try.underlying59 rfl sz4 rfl rfl) ?_
  refine SL.pure rfl rfl rfl (PureOp.load (v := .bool cl) Try.underlying4 rfl rfl (fun _ => (ho.cell 5 rfl))) ?_
  refine SL.nil_then ?_
  refine WC.cond rfl (fun h1 => ?_) (fun h1 => ?_)
  · try simp only [Bool.and_eq_true, Bool.or_eq_true, Bool.not_eq_true', Bool.not_eq_false', Bool.and_eq_false_iff, Bool.or_eq_false_iff, decide_eq_true_eq, decide_eq_false_iff_not, Int.not_lt, Int.not_le, ne_eq, Decidable.not_not] at h1
    refine WC.seq ?_
    refine WC.region ?_
    refine SL.pure rfl rfl rfl (PureOp.assign rfl) ?_
    refine SL.nil_then ?_
    refine WC.ret ?_
    refine QX.ret_then ?_
    refine QX.ret1 rfl rfl ?_
    intro w hw
    rw [if_pos h1]
  · try simp only [Bool.and_eq_true, Bool.or_eq_true, Bool.not_eq_true', Bool.not_eq_false', Bool.and_eq_false_iff, Bool.or_eq_false_iff, decide_eq_true_eq, decide_eq_false_iff_not, Int.not_lt, Int.not_le, ne_eq, Decidable.not_not] at h1
    refine WC.skip ?_
    refine QX.then_ ?_
    refine WC.seq ?_
    refine WC.region ?_
    refine SL.pure rfl rfl rfl (PureOp.assign rfl) ?_
    refine SL.nil_then ?_
    refine WC.ret ?_
    refine QX.ret1 rfl rfl ?_
    intro w hw
    rw [if_neg (by simp [h1])]

set_option maxHeartbeats 4000000 in
set_option maxRecDepth 100000 in
theorem pbag_ok (b : Nat) (T R : List Int) (A : List Bool) (cl : Bool) (G : List Bag) (ta ra aa ga : Option Addr) (n tc rc ac gc : Nat) (hM : Made T R) (hn : n = T.length) (hR : R.length = n) (h9 : n ≤ 999) (hA : A.length = n) (hK : Known T G) (hG : G.length ≤ 500) (g : Int) (w0 : World) (ho : ObjIn w0 b [.bool true, .bool cl, .slice ta n tc, .slice ra n rc, .slice aa n ac, .slice ga G.length gc]) (sT : SliceIn w0 1 ta n tc (rowsF encI T)) (sR : SliceIn w0 1 ra n rc (rowsF encI R)) (sA : SliceIn w0 1 aa n ac (rowsF encBo A)) (sG : SliceIn w0 3 ga G.length gc (rowsF encBag G)) : FnC Try.prog 39 [.pointer (some ⟨b, 0, none⟩), .int .i64 g] w0 fun v w' => v = .int .i64 (ixB G g) := by
  refine fnc (N := 11) Try.func39 rfl rfl rfl ?_
  refine WC.seq ?_
  refine WC.region ?_
  refine SL.box rfl rfl rfl (fun b1 hb1 => ?_)
  refine SL.norm [_] rfl ?_
  refine SL.pure rfl rfl rfl (PureOp.assign rfl) ?_
  refine SL.nil_then ?_
  refine WC.seq ?_
  refine WC.region ?_
  refine SL.pure rfl rfl rfl (PureOp.move rfl) ?_
  refine SL.pure rfl rfl rfl (PureOp.nilCheckp rfl) ?_
  refine SL.pure rfl rfl rfl (PureOp.fieldAddrT 5 Try.underlying44 rfl sz38 rfl rfl) ?_
  refine SL.pure rfl rfl rfl (PureOp.load (v := .slice ga G.length gc) Try.underlying38 rfl rfl (fun _ => (ho.cell 5 rfl))) ?_
  refine SL.pure rfl rfl rfl (PureOp.makeFunc rfl rfl) ?_
  refine SL.calle rfl rfl rfl rfl rfl rfl callable45 (fun w hw => indexf_ok G ga gc (by omega) g b1 w (ObjIn.of hw 0 rfl) (sG.below hw.below)) ?_
  refine SL.norm [_] rfl ?_
  refine SL.pure rfl rfl rfl (PureOp.assign rfl) ?_
  refine SL.nil_then ?_
  refine WC.ret ?_
  refine QX.ret1 rfl rfl ?_
  intro w hw
  rfl

set_option maxHeartbeats 4000000 in
set_option maxRecDepth 100000 in
theorem rbag_ok (b : Nat) (T R : List Int) (A : List Bool) (cl : Bool) (G : List Bag) (ta ra aa ga : Option Addr) (n tc rc ac gc : Nat) (hM : Made T R) (hn : n = T.length) (hR : R.length = n) (h9 : n ≤ 999) (hA : A.length = n) (hK : Known T G) (hG : G.length ≤ 500) (g : Int) (w0 : World) (ho : ObjIn w0 b [.slice ta n tc, .slice ra n rc, .slice aa n ac, .slice ga G.length gc, .bool true, .bool cl]) (sT : SliceIn w0 1 ta n tc (rowsF encI T)) (sR : SliceIn w0 1 ra n rc (rowsF encI R)) (sA : SliceIn w0 1 aa n ac (rowsF encBo A)) (sG : SliceIn w0 3 ga G.length gc (rowsF encBag G)) : FnC Try.prog 44 [.pointer (some ⟨b, 0, none⟩), .int .i64 g] w0 fun v w' => v = .int .i64 (ixB G g) := by
  refine fnc (N := 26) Try.func44 rfl rfl rfl ?_
  refine WC.seq ?_
  refine WC.region ?_
  refine SL.pure rfl rfl rfl (PureOp.assign rfl) ?_
  refine SL.nil_then ?_
  refine WC.seq ?_
  refine WC.seq ?_
  refine WC.region ?_
  refine SL.pure rfl rfl rfl (PureOp.assign rfl) ?_
  refine SL.nil_then ?_
  refine WC.block ?_
  refine WC.loop (σ := Nat) (fun q_ => [(0, 0, .pointer (some ⟨b, 0, none⟩)), (1, 0, .int .i64 g), (5, 0, .int .i64 ((q_ : Nat) : Int))]) (fun q_ => []) (fun q_ => q_ ≤ G.length ∧ ∀ j, j < q_ → decide ((nth G j).1 = g) = false) (fun q_ => G.length - q_) 0 (0) (⟨Nat.zero_le _, fun _ h => absurd h (Nat.not_lt_zero _)⟩) ⟨rfl, rfl, rfl, rfl, rfl, rfl, trivial⟩ rfl ?_
  rintro k ⟨hk, ha⟩
  refine WC.seq ?_
  refine WC.seq ?_
  refine WC.region ?_
  refine SL.pure rfl rfl rfl (PureOp.move rfl) ?_
  refine SL.pure rfl rfl rfl (PureOp.move rfl) ?_
  refine SL.pure rfl rfl rfl (PureOp.nilCheckp rfl) ?_
  refine SL.pure rfl rfl rfl (PureOp.fieldAddrT 3 Try.underlying59 rfl sz38 rfl rfl) ?_
  refine SL.pure rfl rfl rfl (PureOp.load (v := .slice ga G.length gc) Try.underlying38 rfl rfl (fun _ => (ho.cell 3 rfl))) ?_
  refine SL.pure rfl rfl rfl (PureOp.len rfl Try.underlying38) ?_
  refine SL.pure rfl rfl rfl (PureOp.lss rfl rfl) ?_
  refine SL.nil_then ?_
  refine WC.cond rfl (fun h1 => ?_) (fun h1 => ?_)
  · try simp only [Bool.and_eq_true, Bool.or_eq_true, Bool.not_eq_true', Bool.not_eq_false', Bool.and_eq_false_iff, Bool.or_eq_false_iff, decide_eq_true_eq, decide_eq_false_iff_not, Int.not_lt, Int.not_le, ne_eq, Decidable.not_not] at h1
    refine WC.skip ?_
    refine QX.then_ ?_
    refine WC.seq ?_
    refine WC.block ?_
    refine WC.seq ?_
    refine WC.region ?_
    refine SL.pure rfl rfl rfl (PureOp.move rfl) ?_
    refine SL.pure rfl rfl rfl (PureOp.nilCheckp rfl) ?_
    refine SL.pure rfl rfl rfl (PureOp.fieldAddrT 3 Try.underlying59 rfl sz38 rfl rfl) ?_
    refine SL.pure rfl rfl rfl (PureOp.load (v := .slice ga G.length gc) Try.underlying38 rfl rfl (fun _ => (ho.cell 3 rfl))) ?_
    refine SL.pure rfl rfl rfl (PureOp.move rfl) ?_
    refine SL.pure rfl rfl rfl (PureOp.indexAddrN Try.underlying38 sz47 rfl rfl (AoOk.in_ sG) (fun _ => by omega)) ?_
    refine SL.pure rfl rfl rfl (PureOp.fieldAddr 0 Try.underlying47 rfl rfl sz3 rfl) ?_
    refine SL.pure rfl rfl rfl (PureOp.load (v := .int .i64 ((nth G k).1)) Try.underlying3 rfl rfl (fun _ => (CellIs.in_ sG k 0 (by omega) (by omega)))) ?_
    refine SL.pure rfl rfl rfl (PureOp.move rfl) ?_
    refine SL.pure rfl rfl rfl (PureOp.eql rfl rfl) ?_
    refine SL.nil_then ?_
    refine WC.cond rfl (fun h2 => ?_) (fun h2 => ?_)
    · try simp only [Bool.and_eq_true, Bool.or_eq_true, Bool.not_eq_true', Bool.not_eq_false', Bool.and_eq_false_iff, Bool.or_eq_false_iff, decide_eq_true_eq, decide_eq_false_iff_not, Int.not_lt, Int.not_le, ne_eq, Decidable.not_not] at h2
      refine WC.seq ?_
      refine WC.region ?_
      refine SL.pure rfl rfl rfl (PureOp.move rfl) ?_
      refine SL.pure rfl rfl rfl (PureOp.assign rfl) ?_
      refine SL.nil_then ?_
      refine WC.ret ?_
      refine QX.ret_in ?_
      refine QX.ret_then ?_
      refine QX.ret_then ?_
      refine QX.ret_in ?_
      refine QX.ret_then ?_
      refine QX.ret1 rfl rfl ?_
      intro w hw
      refine congrArg (Value.int .i64) ?_
      exact (fnd_hit (by omega) (by simp; omega) ha).symm
    · try simp only [Bool.and_eq_true, Bool.or_eq_true, Bool.not_eq_true', Bool.not_eq_false', Bool.and_eq_false_iff, Bool.or_eq_false_iff, decide_eq_true_eq, decide_eq_false_iff_not, Int.not_lt, Int.not_le, ne_eq, Decidable.not_not] at h2
      refine WC.skip ?_
      refine QX.normal_in ?_
      refine QX.then_ ?_
      refine WC.region ?_
      refine SL.pure rfl rfl rfl (PureOp.move rfl) ?_
      refine SL.pure rfl rfl rfl (PureOp.addN (k := 1) rfl rfl (fun _ => by omega)) ?_
      refine SL.pure rfl rfl rfl (PureOp.assign rfl) ?_
      refine SL.nil ?_
      refine QX.round 0 (k + 1) ⟨⟨(by first | omega | (dsimp only; omega)), fun j hj => by
            by_cases e : j = k
            · subst e; simp; omega
            · exact ha j (by omega)⟩, by first | omega | (dsimp only; omega)⟩ ⟨rfl, rfl, rfl, rfl, rfl, rfl, trivial⟩ rfl
  · try simp only [Bool.and_eq_true, Bool.or_eq_true, Bool.not_eq_true', Bool.not_eq_false', Bool.and_eq_false_iff, Bool.or_eq_false_iff, decide_eq_true_eq, decide_eq_false_iff_not, Int.not_lt, Int.not_le, ne_eq, Decidable.not_not] at h1
    refine WC.exit ?_
    refine QX.exit_then ?_
    refine QX.exit_then ?_
    refine QX.exit_hit ?_
    refine QX.then_ ?_
    refine WC.seq ?_
    refine WC.region ?_
    refine SL.pure rfl rfl rfl (PureOp.assign rfl) ?_
    refine SL.nil_then ?_
    refine WC.ret ?_
    refine QX.ret1 rfl rfl ?_
    intro w hw
    refine congrArg (Value.int .i64) ?_
    obtain rfl : k = G.length := by omega
    exact (fnd_miss ha).symm

set_option maxHeartbeats 4000000 in
set_option maxRecDepth 100000 in
theorem pzone_ok (b : Nat) (T R : List Int) (A : List Bool) (cl : Bool) (G : List Bag) (ta ra aa ga : Option Addr) (n tc rc ac gc : Nat) (hM : Made T R) (hn : n = T.length) (hR : R.length = n) (h9 : n ≤ 999) (hA : A.length = n) (hK : Known T G) (hG : G.length ≤ 500) (t : Int) (w0 : World) (ho : ObjIn w0 b [.bool true, .bool cl, .slice ta n tc, .slice ra n rc, .slice aa n ac, .slice ga G.length gc]) (sT : SliceIn w0 1 ta n tc (rowsF encI T)) (sR : SliceIn w0 1 ra n rc (rowsF encI R)) (sA : SliceIn w0 1 aa n ac (rowsF encBo A)) (sG : SliceIn w0 3 ga G.length gc (rowsF encBag G)) : FnC Try.prog 9 [.pointer (some ⟨b, 0, none⟩), .int .i64 t] w0 fun v w' => v = .int .i64 (zoneV T R t) := by
  refine fnc (N := 30) Try.func9 rfl rfl rfl ?_
  refine WC.seq ?_
  refine WC.region ?_
  refine SL.pure rfl rfl rfl (PureOp.assign rfl) ?_
  refine SL.nil_then ?_
  refine WC.seq ?_
  refine WC.region ?_
  refine SL.pure rfl rfl rfl (PureOp.move rfl) ?_
  refine SL.pure rfl rfl rfl (PureOp.move rfl) ?_
  refine SL.calle rfl rfl rfl rfl rfl rfl callable27 (fun w hw => pfind_ok b T R A cl G ta ra aa ga n tc rc ac gc hM hn hR h9 hA hK hG t w (ho.below hw.below) (sT.below hw.below) (sR.below hw.below) (sA.below hw.below) (sG.below hw.below)) ?_
  refine SL.norm [] rfl ?_
  refine SL.pure rfl rfl rfl (PureOp.assign rfl) ?_
  refine SL.nil_then ?_
  refine WC.seq ?_
  refine WC.seq ?_
  refine WC.region ?_
  refine SL.pure rfl rfl rfl (PureOp.move rfl) ?_
  refine SL.pure rfl rfl rfl (PureOp.lss rfl rfl) ?_
  refine SL.nil_then ?_
  refine WC.cond rfl (fun h1 => ?_) (fun h1 => ?_)
  · try simp only [Bool.and_eq_true, Bool.or_eq_true, Bool.not_eq_true', Bool.not_eq_false', Bool.and_eq_false_iff, Bool.or_eq_false_iff, decide_eq_true_eq, decide_eq_false_iff_not, Int.not_lt, Int.not_le, ne_eq, Decidable.not_not] at h1
    refine WC.seq ?_
    refine WC.region ?_
    refine SL.pure rfl rfl rfl (PureOp.assign rfl) ?_
    refine SL.nil_then ?_
    refine WC.ret ?_
    refine QX.ret_then ?_
    refine QX.ret1 rfl rfl ?_
    intro w hw
    rw [zoneV, if_pos (by omega)]
  · try simp only [Bool.and_eq_true, Bool.or_eq_true, Bool.not_eq_true', Bool.not_eq_false', Bool.and_eq_false_iff, Bool.or_eq_false_iff, decide_eq_true_eq, decide_eq_false_iff_not, Int.not_lt, Int.not_le, ne_eq, Decidable.not_not] at h1
    have qx := ixT_hit (T := T) (t := t) (by omega)
    have qm := maxR_in hM.rows n (by omega)
    have qr := hM.rows (ixT T t).toNat (by omega)
    have qg := maxR_ge (R := R) n (ixT T t).toNat (by omega)
    have qd := zone_bd (x := maxR R n - nth R (ixT T t).toNat) (y := maxR R n) (by omega) (by omega) (by omega)
    refine WC.skip ?_
    refine QX.then_ ?_
    refine WC.seq ?_
    refine WC.region ?_
    refine SL.pure rfl rfl rfl (PureOp.move rfl) ?_
    refine SL.pure rfl rfl rfl (PureOp.nilCheckp rfl) ?_
    refine SL.pure rfl rfl rfl (PureOp.fieldAddrT 3 Try.underlying44 rfl sz22 rfl rfl) ?_
    refine SL.pure rfl rfl rfl (PureOp.load (v := .slice ra n rc) Try.underlying22 rfl rfl (fun _ => (ho.cell 3 rfl))) ?_
    refine SL.calle rfl rfl rfl rfl rfl rfl callable28 (fun w hw => max_ok R ra n rc hR.symm (by omega) hM.rows (by omega) w (sR.below hw.below)) ?_
    refine SL.norm [] rfl ?_
    refine SL.pure rfl rfl rfl (PureOp.assign rfl) ?_
    refine SL.nil_then ?_
    refine WC.seq ?_
    refine WC.region ?_
    refine SL.pure rfl rfl rfl (PureOp.move rfl) ?_
    refine SL.pure rfl rfl rfl (PureOp.move rfl) ?_
    refine SL.pure rfl rfl rfl (PureOp.nilCheckp rfl) ?_
    refine SL.pure rfl rfl rfl (PureOp.fieldAddrT 3 Try.underlying44 rfl sz22 rfl rfl) ?_
    refine SL.pure rfl rfl rfl (PureOp.load (v := .slice ra n rc) Try.underlying22 rfl rfl (fun _ => (ho.cell 3 rfl))) ?_
    refine SL.pure rfl rfl rfl (PureOp.move rfl) ?_
    refine SL.pure rfl rfl rfl (PureOp.indexAddr Try.underlying22 sz3 rfl rfl (AoOk.in_ sR) (fun _ => by omega)) ?_
    refine SL.pure rfl rfl rfl (PureOp.load (v := .int .i64 (nth R ((ixT T t).toNat))) Try.underlying3 rfl rfl (fun _ => (CellIs.in_ sR ((ixT T t).toNat) 0 (by omega) (by omega)))) ?_
    refine SL.pure rfl rfl rfl (PureOp.sub rfl rfl (fun _ => by omega)) ?_
    refine SL.pure rfl rfl rfl (PureOp.mul rfl rfl (fun _ => by omega)) ?_
    refine SL.pure rfl rfl rfl (PureOp.move rfl) ?_
    refine SL.pure rfl rfl rfl (PureOp.quo rfl rfl (fun _ => by omega)) ?_
    refine SL.pure rfl rfl rfl (PureOp.add rfl rfl (fun _ => by omega)) ?_
    refine SL.pure rfl rfl rfl (PureOp.assign rfl) ?_
    refine SL.nil_then ?_
    refine WC.ret ?_
    refine QX.ret1 rfl rfl ?_
    intro w hw
    rw [zoneV, if_neg (by omega), hR]

set_option maxHeartbeats 4000000 in
set_option maxRecDepth 100000 in
theorem rzone_ok (b : Nat) (T R : List Int) (A : List Bool) (cl : Bool) (G : List Bag) (ta ra aa ga : Option Addr) (n tc rc ac gc : Nat) (hM : Made T R) (hn : n = T.length) (hR : R.length = n) (h9 : n ≤ 999) (hA : A.length = n) (hK : Known T G) (hG : G.length ≤ 500) (t : Int) (w0 : World) (ho : ObjIn w0 b [.slice ta n tc, .slice ra n rc, .slice aa n ac, .slice ga G.length gc, .bool true, .bool cl]) (sT : SliceIn w0 1 ta n tc (rowsF encI T)) (sR : SliceIn w0 1 ra n rc (rowsF encI R)) (sA : SliceIn w0 1 aa n ac (rowsF encBo A)) (sG : SliceIn w0 3 ga G.length gc (rowsF encBag G)) : FnC Try.prog 12 [.pointer (some ⟨b, 0, none⟩), .int .i64 t] w0 fun v w' => v = .int .i64 (zoneV T R t) := by
  refine fnc (N := 48) Try.func12 rfl rfl rfl ?_
  refine WC.seq ?_
  refine WC.region ?_
  refine SL.pure rfl rfl rfl (PureOp.assign rfl) ?_
  refine SL.nil_then ?_
  refine WC.seq ?_
  refine WC.seq ?_
  refine WC.region ?_
  refine SL.pure rfl rfl rfl (PureOp.move rfl) ?_
  refine SL.calle rfl rfl rfl rfl rfl rfl callable34 (fun w hw => rnone_ok b T R A cl G ta ra aa ga n tc rc ac gc hM hn hR h9 hA hK hG w (ho.below hw.below) (sT.below hw.below) (sR.below hw.below) (sA.below hw.below) (sG.below hw.below)) ?_
  refine SL.norm [] rfl ?_
  refine SL.pure rfl rfl rfl (PureOp.move rfl) ?_
  refine SL.ung rfl rfl rfl rfl ?_
  refine SL.pure rfl rfl rfl (PureOp.move rfl) ?_
  refine SL.ung rfl rfl rfl rfl ?_
  refine SL.pure rfl rfl rfl (PureOp.move rfl) ?_
  refine SL.ung rfl rfl rfl rfl ?_
  refine SL.calle rfl rfl rfl rfl rfl rfl callable35 (fun w hw => rfind_ok b T R A cl G ta ra aa ga n tc rc ac gc hM hn hR h9 hA hK hG t w (ho.below hw.below) (sT.below hw.below) (sR.below hw.below) (sA.below hw.below) (sG.below hw.below)) ?_
  refine SL.norm [] rfl ?_
  refine SL.ung rfl rfl rfl rfl ?_
  refine SL.pure rfl rfl rfl (PureOp.lss rfl rfl) ?_
  refine SL.pure rfl rfl rfl (PureOp.pickF rfl rfl) ?_
  refine SL.nil_then ?_
  refine WC.cond rfl (fun h1 => ?_) (fun h1 => ?_)
  · try simp only [Bool.and_eq_true, Bool.or_eq_true, Bool.not_eq_true', Bool.not_eq_false', Bool.and_eq_false_iff, Bool.or_eq_false_iff, decide_eq_true_eq, decide_eq_false_iff_not, Int.not_lt, Int.not_le, ne_eq, Decidable.not_not] at h1
    refine WC.seq ?_
    refine WC.region ?_
    refine SL.pure rfl rfl rfl (PureOp.assign rfl) ?_
    refine SL.nil_then ?_
    refine WC.ret ?_
    refine QX.ret_then ?_
    refine QX.ret1 rfl rfl ?_
    intro w hw
    rw [zoneV, if_pos (by omega)]
  · try simp only [Bool.and_eq_true, Bool.or_eq_true, Bool.not_eq_true', Bool.not_eq_false', Bool.and_eq_false_iff, Bool.or_eq_false_iff, decide_eq_true_eq, decide_eq_false_iff_not, Int.not_lt, Int.not_le, ne_eq, Decidable.not_not] at h1
    have qx := ixT_hit (T := T) (t := t) (by omega)
    have qm := maxR_in hM.rows n (by omega)
    have qr := hM.rows (ixT T t).toNat (by omega)
    have qg := maxR_ge (R := R) n (ixT T t).toNat (by omega)
    have qd := zone_bd (x := maxR R n - nth R (ixT T t).toNat) (y := maxR R n) (by omega) (by omega) (by omega)
    refine WC.skip ?_
    refine QX.then_ ?_
    refine WC.seq ?_
    refine WC.region ?_
    refine SL.pure rfl rfl rfl (PureOp.assign rfl) ?_
    refine SL.nil_then ?_
    refine WC.seq ?_
    refine WC.seq ?_
    refine WC.region ?_
    refine SL.pure rfl rfl rfl (PureOp.assign rfl) ?_
    refine SL.nil_then ?_
    refine WC.block ?_
    refine WC.loop (σ := Nat) (fun q_ => [(0, 0, .pointer (some ⟨b, 0, none⟩)), (1, 0, .int .i64 t), (4, 0, .int .i64 0), (7, 0, .pointer (some ⟨b, 0, none⟩)), (8, 0, .bool false), (9, 0, .bool false), (10, 0, .pointer (some ⟨b, 0, none⟩)), (11, 0, .int .i64 t), (12, 0, .int .i64 (ixT T t)), (13, 0, .bool (decide (ixT T t < 0))), (14, 0, .bool (decide (ixT T t < 0))), (6, 0, .int .i64 ((q_ : Nat) : Int)), (5, 0, .int .i64 (maxR R q_))]) (fun q_ => []) (fun q_ => q_ ≤ n) (fun q_ => n - q_) 0 (0) (Nat.zero_le _) ⟨rfl, rfl, rfl, rfl, rfl, rfl, rfl, rfl, rfl, rfl, rfl, rfl, rfl, rfl, rfl, rfl, rfl, rfl, rfl, rfl, rfl, rfl, rfl, rfl, rfl, rfl, trivial⟩ rfl ?_
    rintro k hk
    have qk := maxR_in hM.rows k (by omega)
    refine WC.seq ?_
    refine WC.seq ?_
    refine WC.region ?_
    refine SL.pure rfl rfl rfl (PureOp.move rfl) ?_
    refine SL.pure rfl rfl rfl (PureOp.move rfl) ?_
    refine SL.pure rfl rfl rfl (PureOp.nilCheckp rfl) ?_
    refine SL.pure rfl rfl rfl (PureOp.fieldAddrT 1 Try.underlying59 rfl sz22 rfl rfl) ?_
    refine SL.pure rfl rfl rfl (PureOp.load (v := .slice ra n rc) Try.underlying22 rfl rfl (fun _ => (ho.cell 1 rfl))) ?_
    refine SL.pure rfl rfl rfl (PureOp.len rfl Try.underlying22) ?_
    refine SL.pure rfl rfl rfl (PureOp.lss rfl rfl) ?_
    refine SL.nil_then ?_
    refine WC.cond rfl (fun h2 => ?_) (fun h2 => ?_)
    · try simp only [Bool.and_eq_true, Bool.or_eq_true, Bool.not_eq_true', Bool.not_eq_false', Bool.and_eq_false_iff, Bool.or_eq_false_iff, decide_eq_true_eq, decide_eq_false_iff_not, Int.not_lt, Int.not_le, ne_eq, Decidable.not_not] at h2
      refine WC.skip ?_
      refine QX.then_ ?_
      refine WC.seq ?_
      refine WC.block ?_
      refine WC.region ?_
      refine SL.pure rfl rfl rfl (PureOp.move rfl) ?_
      refine SL.pure rfl rfl rfl (PureOp.move rfl) ?_
      refine SL.pure rfl rfl rfl (PureOp.nilCheckp rfl) ?_
      refine SL.pure rfl rfl rfl (PureOp.fieldAddrT 1 Try.underlying59 rfl sz22 rfl rfl) ?_
      refine SL.pure rfl rfl rfl (PureOp.load (v := .slice ra n rc) Try.underlying22 rfl rfl (fun _ => (ho.cell 1 rfl))) ?_
      refine SL.pure rfl rfl rfl (PureOp.move rfl) ?_
      refine SL.pure rfl rfl rfl (PureOp.indexAddrN Try.underlying22 sz3 rfl rfl (AoOk.in_ sR) (fun _ => by omega)) ?_
      refine SL.pure rfl rfl rfl (PureOp.load (v := .int .i64 (nth R k)) Try.underlying3 rfl rfl (fun _ => (CellIs.in_ sR k 0 (by omega) (by omega)))) ?_
      refine SL.pure rfl rfl rfl (PureOp.max_ rfl rfl) ?_
      refine SL.pure rfl rfl rfl (PureOp.assign rfl) ?_
      refine SL.nil ?_
      refine QX.normal_in ?_
      refine QX.then_ ?_
      refine WC.region ?_
      refine SL.pure rfl rfl rfl (PureOp.move rfl) ?_
      refine SL.pure rfl rfl rfl (PureOp.addN (k := 1) rfl rfl (fun _ => by omega)) ?_
      refine SL.pure rfl rfl rfl (PureOp.assign rfl) ?_
      refine SL.nil ?_
      refine QX.round 0 (k + 1) ⟨(by first | omega | (dsimp only; omega)), by first | omega | (dsimp only; omega)⟩ ⟨rfl, rfl, rfl, rfl, rfl, rfl, rfl, rfl, rfl, rfl, rfl, rfl, rfl, rfl, rfl, rfl, rfl, rfl, rfl, rfl, rfl, rfl, rfl, rfl, rfl, rfl, trivial⟩ rfl
    · try simp only [Bool.and_eq_true, Bool.or_eq_true, Bool.not_eq_true', Bool.not_eq_false', Bool.and_eq_false_iff, Bool.or_eq_false_iff, decide_eq_true_eq, decide_eq_false_iff_not, Int.not_lt, Int.not_le, ne_eq, Decidable.not_not] at h2
      have ek : k = n := by omega
      have qd2 := zone_bd (x := maxR R k - nth R (ixT T t).toNat) (y := maxR R k) (by rw [ek]; omega) (by rw [ek]; omega) (by rw [ek]; omega)
      refine WC.exit ?_
      refine QX.exit_then ?_
      refine QX.exit_then ?_
      refine QX.exit_hit ?_
      refine QX.then_ ?_
      refine WC.seq ?_
      refine WC.quiet rfl (by kernel_rfl) ?_
      refine SQ.pure rfl rfl rfl (PureOp.move rfl) ?_
      refine SQ.pure rfl rfl rfl (PureOp.move rfl) ?_
      refine SQ.pure rfl rfl rfl (PureOp.nilCheckp rfl) ?_
      refine SQ.pure rfl rfl rfl (PureOp.fieldAddrT 1 Try.underlying59 rfl sz22 rfl rfl) ?_
      refine SQ.pure rfl rfl rfl (PureOp.load (v := .slice ra n rc) Try.underlying22 rfl rfl (fun _ => (ho.cell 1 rfl))) ?_
      refine SQ.pure rfl rfl rfl (PureOp.move rfl) ?_
      refine SQ.pure rfl rfl rfl (PureOp.move rfl) ?_
      refine SQ.calle rfl rfl rfl rfl rfl rfl callable35 (fun w hw => rfind_ok b T R A cl G ta ra aa ga n tc rc ac gc hM hn hR h9 hA hK hG t w (ho.below hw.below) (sT.below hw.below) (sR.below hw.below) (sA.below hw.below) (sG.below hw.below)) ?_
      refine SQ.pure rfl rfl rfl (PureOp.indexAddr Try.underlying22 sz3 rfl rfl (AoOk.in_ sR) (fun _ => by omega)) ?_
      refine SQ.pure rfl rfl rfl (PureOp.load (v := .int .i64 (nth R ((ixT T t).toNat))) Try.underlying3 rfl rfl (fun _ => (CellIs.in_ sR ((ixT T t).toNat) 0 (by omega) (by omega)))) ?_
      refine SQ.pure rfl rfl rfl (PureOp.sub rfl rfl (fun _ => by omega)) ?_
      refine SQ.pure rfl rfl rfl (PureOp.mul rfl rfl (fun _ => by omega)) ?_
      refine SQ.pure rfl rfl rfl (PureOp.move rfl) ?_
      refine SQ.pure rfl rfl rfl (PureOp.quo rfl rfl (fun _ => by omega)) ?_
      refine SQ.pure rfl rfl rfl (PureOp.add rfl rfl (fun _ => by omega)) ?_
      refine SQ.pure rfl rfl rfl (PureOp.assign rfl) ?_
      refine SQ.nil_then ?_
      refine WC.ret ?_
      refine QX.ret1 rfl rfl ?_
      intro w hw
      obtain rfl : k = n := by omega
      rw [zoneV, if_neg (by omega), hR]

end Go.Proofs.Ythbgnjengkjigaa
