import Derived.Test.YthbgnjengkjigaaBdC
namespace Go.Proofs.Ythbgnjengkjigaa
open Go Go.RowKit Eng
set_option linter.unusedVariables false
set_option linter.unusedSimpArgs false

set_option maxHeartbeats 4000000 in
set_option maxRecDepth 100000 in
theorem pmiss_ok (b : Nat) (T R : List Int) (A : List Bool) (cl : Bool) (G : List Bag) (ta ra aa ga : Option Addr) (n tc rc ac gc : Nat) (hM : Made T R) (hn : n = T.length) (hR : R.length = n) (h9 : n ≤ 999) (hA : A.length = n) (hK : Known T G) (hG : G.length ≤ 500) (w0 : World) (ho : ObjIn w0 b [.bool true, .bool cl, .slice ta n tc, .slice ra n rc, .slice aa n ac, .slice ga G.length gc]) (sT : SliceIn w0 1 ta n tc (rowsF encI T)) (sR : SliceIn w0 1 ra n rc (rowsF encI R)) (sA : SliceIn w0 1 aa n ac (rowsF encBo A)) (sG : SliceIn w0 3 ga G.length gc (rowsF encBag G)) : FnC Try.prog 14 [.pointer (some ⟨b, 0, none⟩)] w0 fun v w' => ∃ a c, v = .slice a (missL T A G).length c ∧ w'.ownsRow w0.heap.size 47 3 (.slice a (missL T A G).length c) (missL T A G).length (cellsOf encBag (missL T A G)) := by
  refine fnc (N := 34) Try.func14 rfl rfl rfl ?_
  refine WC.seq ?_
  refine WC.region ?_
  refine SL.pure rfl rfl rfl (PureOp.assign rfl) ?_
  refine SL.nil_then ?_
  refine WC.seq ?_
  refine WC.seq ?_
  refine WC.region ?_
  refine SL.pure rfl rfl rfl (PureOp.move rfl) ?_
  refine SL.pure rfl rfl rfl (PureOp.eqlpnil1 rfl rfl Try.underlying23) ?_
  refine SL.nil_then ?_
  refine WC.condF rfl ?_
  refine WC.skip ?_
  refine QX.then_ ?_
  refine WC.seq ?_
  refine WC.region ?_
  refine SL.addnil 47 3 ?_
  refine SL.pure rfl rfl rfl (PureOp.assign rfl) ?_
  refine SL.nil_then ?_
  refine WC.seq ?_
  refine WC.seq ?_
  refine WC.region ?_
  refine SL.pure rfl rfl rfl (PureOp.move rfl) ?_
  refine SL.pure rfl rfl rfl (PureOp.nilCheckp rfl) ?_
  refine SL.pure rfl rfl rfl (PureOp.fieldAddrT 5 Try.underlying44 rfl sz38 rfl rfl) ?_
  refine SL.pure rfl rfl rfl (PureOp.load (v := .slice ga G.length gc) Try.underlying38 rfl rfl (fun _ => (ho.cell 5 rfl))) ?_
  refine SL.pure rfl rfl rfl (PureOp.len rfl Try.underlying38) ?_
  refine SL.pure rfl rfl rfl (PureOp.move rfl) ?_
  refine SL.nil_then ?_
  refine WC.block ?_
  refine WC.loop (σ := Nat × Nat × List Bag × Option Addr × Nat) (fun q_ => [(0, 0, .pointer (some ⟨b, 0, none⟩)), (2, 0, .slice none 0 0), (6, 0, .pointer (some ⟨b, 0, none⟩)), (7, 0, .bool false), (8, 0, .pointer (some ⟨b, 0, none⟩)), (9, 0, .pointer (some ⟨b, 0, none⟩)), (10, 0, .pointer (some ⟨b, 5, none⟩)), (11, 0, .slice ga G.length gc), (12, 0, .int .i64 ((G.length : Nat) : Int)), (13, 0, .int .i64 ((q_.1 : Nat) : Int)), (3, 0, .slice q_.2.2.2.1 q_.2.1 q_.2.2.2.2)]) (fun q_ => [Item.own w0.heap.size q_.2.2.2.1 q_.2.1 q_.2.2.2.2 47 3 (cellsOf encBag (q_.2.2.1))]) (fun q_ => (q_.1 ≤ G.length ∧ q_.2.1 ≤ q_.1 ∧ q_.2.1 = q_.2.2.1.length) ∧ q_.2.2.1 = missL T A (G.take q_.1)) (fun q_ => G.length - q_.1) 1 ((0, 0, [], none, 0)) (⟨⟨Nat.zero_le _, Nat.le_refl _, rfl⟩, rfl⟩) ⟨rfl, rfl, rfl, rfl, rfl, rfl, rfl, rfl, rfl, rfl, rfl, rfl, rfl, rfl, rfl, rfl, rfl, rfl, rfl, rfl, rfl, rfl, trivial⟩ rfl ?_
  rintro ⟨k, m, L, a, c⟩ ⟨⟨hk, hm1, hm⟩, hv⟩
  try dsimp only at *
  refine WC.seq ?_
  refine WC.region ?_
  refine SL.pure rfl rfl rfl (PureOp.lss rfl rfl) ?_
  refine SL.nil_then ?_
  refine WC.seq ?_
  refine WC.cond rfl (fun h1 => ?_) (fun h1 => ?_)
  · try simp only [Bool.and_eq_true, Bool.or_eq_true, Bool.not_eq_true', Bool.not_eq_false', Bool.and_eq_false_iff, Bool.or_eq_false_iff, decide_eq_true_eq, decide_eq_false_iff_not, Int.not_lt, Int.not_le, ne_eq, Decidable.not_not] at h1
    have qx := hK.nth (k := k) (by omega)
    refine WC.skip ?_
    refine QX.then_ ?_
    refine WC.seq ?_
    refine WC.block ?_
    refine WC.seq ?_
    refine WC.region ?_
    refine SL.pure rfl rfl rfl (PureOp.indexAddrN Try.underlying38 sz47 rfl rfl (AoOk.in_ sG) (fun _ => by omega)) ?_
    refine SL.pure rfl rfl rfl (PureOp.loads (vs := [.int .i64 ((nth G k).1), .int .i64 ((nth G k).2.1), .int .i64 ((nth G k).2.2)]) Try.underlying47 rfl rfl (fun _ => (RowIs.in_ sG k 0 3 (by omega) (by omega))) sz47) ?_
    refine SL.alloc rfl rfl zero47 (fun b1 hb1 => ?_)
    refine SL.norm [_, _] rfl ?_
    refine SL.store 1 rfl rfl rfl rfl sz47 rfl rfl ?_
    refine SL.norm [_, _] rfl ?_
    refine SL.nil_then ?_
    refine WC.seq ?_
    refine WC.quiet rfl (by kernel_rfl) ?_
    refine SQ.pure rfl rfl rfl (PureOp.move rfl) ?_
    refine SQ.pure rfl rfl rfl (PureOp.nilCheckp rfl) ?_
    refine SQ.pure rfl rfl rfl (PureOp.fieldAddrT 4 Try.underlying44 rfl sz42 rfl rfl) ?_
    refine SQ.pure rfl rfl rfl (PureOp.load (v := .slice aa n ac) Try.underlying42 rfl rfl (fun _ => (ho.cell 4 rfl))) ?_
    refine SQ.pure rfl rfl rfl (PureOp.move rfl) ?_
    refine SQ.pure rfl rfl rfl (PureOp.fieldAddrT 1 Try.underlying47 rfl sz3 rfl rfl) ?_
    refine SQ.pure rfl rfl rfl (PureOp.load (v := .int .i64 ((nth G k).2.1)) Try.underlying3 rfl rfl (fun _ => (CellIs.cells 1 rfl rfl))) ?_
    refine SQ.calle rfl rfl rfl rfl rfl rfl callable27 (fun w hw => pfind_ok b T R A cl G ta ra aa ga n tc rc ac gc hM hn hR h9 hA hK hG ((nth G k).2.1) w (ho.below hw.below) (sT.below hw.below) (sR.below hw.below) (sA.below hw.below) (sG.below hw.below)) ?_
    refine SQ.pure rfl rfl rfl (PureOp.indexAddr Try.underlying42 sz4 rfl rfl (AoOk.in_ sA) (fun _ => by omega)) ?_
    refine SQ.pure rfl rfl rfl (PureOp.load (v := .bool (nth A ((ixT T ((nth G k).2.1)).toNat))) Try.underlying4 rfl rfl (fun _ => (CellIs.in_ sA ((ixT T ((nth G k).2.1)).toNat) 0 (by omega) (by omega)))) ?_
    refine SQ.pure rfl rfl rfl (PureOp.not rfl) ?_
    refine SQ.nil_then ?_
    refine WC.cond rfl (fun h2 => ?_) (fun h2 => ?_)
    · try simp only [Bool.and_eq_true, Bool.or_eq_true, Bool.not_eq_true', Bool.not_eq_false', Bool.and_eq_false_iff, Bool.or_eq_false_iff, decide_eq_true_eq, decide_eq_false_iff_not, Int.not_lt, Int.not_le, ne_eq, Decidable.not_not] at h2
      refine WC.region ?_
      refine SL.pure rfl rfl rfl (PureOp.move rfl) ?_
      refine SL.pure rfl rfl rfl (PureOp.loads (vs := [.int .i64 ((nth G k).1), .int .i64 ((nth G k).2.1), .int .i64 ((nth G k).2.2)]) Try.underlying47 rfl rfl (fun _ => (RowIs.cells 1 0 3 rfl rfl)) sz47) ?_
      refine SL.buildSlice rfl rfl Try.underlying38 elem47 rfl rfl rfl rfl (fun b2 hb2 => ?_)
      refine SL.norm [_, _, _] rfl ?_
      refine SL.append 0 rfl rfl Try.underlying38 elem47 rfl rfl rfl rfl (SrcIs.own 2 rfl) (by rfl) (by omega) (by omega) (fun ao1_ cap1_ => ?_)
      refine SL.itemxs 0 rfl (show _ = cellsOf encBag (L ++ [nth G k]) from by rw [cellsOf_append, cellsOf_one]; rfl) ?_
      refine SL.norm [_, _, _] rfl ?_
      refine SL.pure rfl rfl rfl (PureOp.assign rfl) ?_
      refine SL.nil ?_
      refine QX.normal_in ?_
      refine QX.then_ ?_
      refine WC.region ?_
      refine SL.pure rfl rfl rfl (PureOp.addN (k := 1) rfl rfl (fun _ => by omega)) ?_
      refine SL.pure rfl rfl rfl (PureOp.move rfl) ?_
      refine SL.nil ?_
      refine QX.round (σ := Nat × Nat × List Bag × Option Addr × Nat) (Ef := fun q_ => [(0, 0, .pointer (some ⟨b, 0, none⟩)), (2, 0, .slice none 0 0), (6, 0, .pointer (some ⟨b, 0, none⟩)), (7, 0, .bool false), (8, 0, .pointer (some ⟨b, 0, none⟩)), (9, 0, .pointer (some ⟨b, 0, none⟩)), (10, 0, .pointer (some ⟨b, 5, none⟩)), (11, 0, .slice ga G.length gc), (12, 0, .int .i64 ((G.length : Nat) : Int)), (13, 0, .int .i64 ((q_.1 : Nat) : Int)), (3, 0, .slice q_.2.2.2.1 q_.2.1 q_.2.2.2.2)]) (Hf := fun q_ => [Item.own w0.heap.size q_.2.2.2.1 q_.2.1 q_.2.2.2.2 47 3 (cellsOf encBag (q_.2.2.1))]) (I := fun q_ => (q_.1 ≤ G.length ∧ q_.2.1 ≤ q_.1 ∧ q_.2.1 = q_.2.2.1.length) ∧ q_.2.2.1 = missL T A (G.take q_.1)) (μ := fun q_ => G.length - q_.1) (s := (k, m, L, a, c)) 1 ((k + 1, m + 1, L ++ [nth G k], ao1_, cap1_)) ⟨⟨⟨(by first | omega | (dsimp only; omega)), (by first | omega | (dsimp only; omega)), by simp; omega⟩, by rw [missL_take (by omega), if_pos (by unfold lostB; rw [h2]; rfl), hv]⟩, by first | omega | (dsimp only; omega)⟩ ⟨rfl, rfl, rfl, rfl, rfl, rfl, rfl, rfl, rfl, rfl, rfl, rfl, rfl, rfl, rfl, rfl, rfl, rfl, rfl, rfl, rfl, rfl, trivial⟩ rfl
    · try simp only [Bool.and_eq_true, Bool.or_eq_true, Bool.not_eq_true', Bool.not_eq_false', Bool.and_eq_false_iff, Bool.or_eq_false_iff, decide_eq_true_eq, decide_eq_false_iff_not, Int.not_lt, Int.not_le, ne_eq, Decidable.not_not] at h2
      refine WC.skip ?_
      refine QX.normal_in ?_
      refine QX.then_ ?_
      refine WC.region ?_
      refine SL.pure rfl rfl rfl (PureOp.addN (k := 1) rfl rfl (fun _ => by omega)) ?_
      refine SL.pure rfl rfl rfl (PureOp.move rfl) ?_
      refine SL.nil ?_
      refine QX.round (σ := Nat × Nat × List Bag × Option Addr × Nat) (Ef := fun q_ => [(0, 0, .pointer (some ⟨b, 0, none⟩)), (2, 0, .slice none 0 0), (6, 0, .pointer (some ⟨b, 0, none⟩)), (7, 0, .bool false), (8, 0, .pointer (some ⟨b, 0, none⟩)), (9, 0, .pointer (some ⟨b, 0, none⟩)), (10, 0, .pointer (some ⟨b, 5, none⟩)), (11, 0, .slice ga G.length gc), (12, 0, .int .i64 ((G.length : Nat) : Int)), (13, 0, .int .i64 ((q_.1 : Nat) : Int)), (3, 0, .slice q_.2.2.2.1 q_.2.1 q_.2.2.2.2)]) (Hf := fun q_ => [Item.own w0.heap.size q_.2.2.2.1 q_.2.1 q_.2.2.2.2 47 3 (cellsOf encBag (q_.2.2.1))]) (I := fun q_ => (q_.1 ≤ G.length ∧ q_.2.1 ≤ q_.1 ∧ q_.2.1 = q_.2.2.1.length) ∧ q_.2.2.1 = missL T A (G.take q_.1)) (μ := fun q_ => G.length - q_.1) (s := (k, m, L, a, c)) 1 ((k + 1, m, L, a, c)) ⟨⟨⟨(by first | omega | (dsimp only; omega)), (by first | omega | (dsimp only; omega)), hm⟩, by rw [missL_take (by omega), if_neg (by unfold lostB; rw [h2]; decide), hv]⟩, by first | omega | (dsimp only; omega)⟩ ⟨rfl, rfl, rfl, rfl, rfl, rfl, rfl, rfl, rfl, rfl, rfl, rfl, rfl, rfl, rfl, rfl, rfl, rfl, rfl, rfl, rfl, rfl, trivial⟩ rfl
  · try simp only [Bool.and_eq_true, Bool.or_eq_true, Bool.not_eq_true', Bool.not_eq_false', Bool.and_eq_false_iff, Bool.or_eq_false_iff, decide_eq_true_eq, decide_eq_false_iff_not, Int.not_lt, Int.not_le, ne_eq, Decidable.not_not] at h1
    refine WC.exit ?_
    refine QX.exit_then ?_
    refine QX.exit_then ?_
    refine QX.exit_hit ?_
    refine QX.then_ ?_
    refine WC.seq ?_
    refine WC.region ?_
    refine SL.pure rfl rfl rfl (PureOp.move rfl) ?_
    refine SL.pure rfl rfl rfl (PureOp.assign rfl) ?_
    refine SL.nil_then ?_
    refine WC.ret ?_
    refine QX.ret1 rfl rfl ?_
    intro w hw
    obtain rfl : k = G.length := by omega
    rw [List.take_length] at hv
    subst hv
    obtain rfl : m = _ := hm
    exact ⟨_, _, rfl, hw.mem (i := 0) rfl⟩

set_option maxHeartbeats 4000000 in
set_option maxRecDepth 100000 in
theorem rmiss_ok (b : Nat) (T R : List Int) (A : List Bool) (cl : Bool) (G : List Bag) (ta ra aa ga : Option Addr) (n tc rc ac gc : Nat) (hM : Made T R) (hn : n = T.length) (hR : R.length = n) (h9 : n ≤ 999) (hA : A.length = n) (hK : Known T G) (hG : G.length ≤ 500) (w0 : World) (ho : ObjIn w0 b [.slice ta n tc, .slice ra n rc, .slice aa n ac, .slice ga G.length gc, .bool true, .bool cl]) (sT : SliceIn w0 1 ta n tc (rowsF encI T)) (sR : SliceIn w0 1 ra n rc (rowsF encI R)) (sA : SliceIn w0 1 aa n ac (rowsF encBo A)) (sG : SliceIn w0 3 ga G.length gc (rowsF encBag G)) : FnC Try.prog 15 [.pointer (some ⟨b, 0, none⟩)] w0 fun v w' => ∃ a c, v = .slice a (missL T A G).length c ∧ w'.ownsRow w0.heap.size 47 3 (.slice a (missL T A G).length c) (missL T A G).length (cellsOf encBag (missL T A G)) := by
  refine fnc (N := 47) Try.func15 rfl rfl rfl ?_
  refine WC.seq ?_
  refine WC.region ?_
  refine SL.pure rfl rfl rfl (PureOp.assign rfl) ?_
  refine SL.nil_then ?_
  refine WC.seq ?_
  refine WC.region ?_
  refine SL.addnil 47 3 ?_
  refine SL.pure rfl rfl rfl (PureOp.assign rfl) ?_
  refine SL.nil_then ?_
  refine WC.seq ?_
  refine WC.seq ?_
  refine WC.region ?_
  refine SL.pure rfl rfl rfl (PureOp.assign rfl) ?_
  refine SL.nil_then ?_
  refine WC.block ?_
  refine WC.loop (σ := Nat × Nat × List Bag × Option Addr × Nat) (fun q_ => [(0, 0, .pointer (some ⟨b, 0, none⟩)), (2, 0, .slice none 0 0), (4, 0, .int .i64 ((q_.1 : Nat) : Int)), (3, 0, .slice q_.2.2.2.1 q_.2.1 q_.2.2.2.2)]) (fun q_ => [Item.own w0.heap.size q_.2.2.2.1 q_.2.1 q_.2.2.2.2 47 3 (cellsOf encBag (q_.2.2.1))]) (fun q_ => (q_.1 ≤ G.length ∧ q_.2.1 ≤ q_.1 ∧ q_.2.1 = q_.2.2.1.length) ∧ q_.2.2.1 = missL T A (G.take q_.1)) (fun q_ => G.length - q_.1) 1 ((0, 0, [], none, 0)) (⟨⟨Nat.zero_le _, Nat.le_refl _, rfl⟩, rfl⟩) ⟨rfl, rfl, rfl, rfl, rfl, rfl, rfl, rfl, trivial⟩ rfl ?_
  rintro ⟨k, m, L, a, c⟩ ⟨⟨hk, hm1, hm⟩, hv⟩
  try dsimp only at *
  refine WC.seq ?_
  refine WC.seq ?_
  refine WC.region ?_
  refine SL.pure rfl rfl rfl (PureOp.move rfl) ?_
  refine SL.calle rfl rfl rfl rfl rfl rfl callable34 (fun w hw => rnone_ok b T R A cl G ta ra aa ga n tc rc ac gc hM hn hR h9 hA hK hG w (ho.below hw.below) (sT.below hw.below) (sR.below hw.below) (sA.below hw.below) (sG.below hw.below)) ?_
  refine SL.norm [_] rfl ?_
  refine SL.pure rfl rfl rfl (PureOp.not rfl) ?_
  refine SL.pure rfl rfl rfl (PureOp.move rfl) ?_
  refine SL.ung rfl rfl rfl rfl ?_
  refine SL.pure rfl rfl rfl (PureOp.move rfl) ?_
  refine SL.ung rfl rfl rfl rfl ?_
  refine SL.pure rfl rfl rfl (PureOp.move rfl) ?_
  refine SL.ung rfl rfl rfl rfl ?_
  refine SL.pure rfl rfl rfl (PureOp.nilCheckp rfl) ?_
  refine SL.ung rfl rfl rfl rfl ?_
  refine SL.pure rfl rfl rfl (PureOp.fieldAddrT 3 Try.underlying59 rfl sz38 rfl rfl) ?_
  refine SL.ung rfl rfl rfl rfl ?_
  refine SL.pure rfl rfl rfl (PureOp.load (v := .slice ga G.length gc) Try.underlying38 rfl rfl (fun _ => (ho.cell 3 rfl))) ?_
  refine SL.ung rfl rfl rfl rfl ?_
  refine SL.pure rfl rfl rfl (PureOp.len rfl Try.underlying38) ?_
  refine SL.ung rfl rfl rfl rfl ?_
  refine SL.pure rfl rfl rfl (PureOp.lss rfl rfl) ?_
  refine SL.pure rfl rfl rfl (PureOp.pickT rfl rfl) ?_
  refine SL.nil_then ?_
  refine WC.cond rfl (fun h1 => ?_) (fun h1 => ?_)
  · try simp only [Bool.and_eq_true, Bool.or_eq_true, Bool.not_eq_true', Bool.not_eq_false', Bool.and_eq_false_iff, Bool.or_eq_false_iff, decide_eq_true_eq, decide_eq_false_iff_not, Int.not_lt, Int.not_le, ne_eq, Decidable.not_not] at h1
    have qx := hK.nth (k := k) (by omega)
    refine WC.skip ?_
    refine QX.then_ ?_
    refine WC.seq ?_
    refine WC.block ?_
    refine WC.seq ?_
    refine WC.quiet rfl (by kernel_rfl) ?_
    refine SQ.pure rfl rfl rfl (PureOp.move rfl) ?_
    refine SQ.pure rfl rfl rfl (PureOp.nilCheckp rfl) ?_
    refine SQ.pure rfl rfl rfl (PureOp.fieldAddrT 2 Try.underlying59 rfl sz42 rfl rfl) ?_
    refine SQ.pure rfl rfl rfl (PureOp.load (v := .slice aa n ac) Try.underlying42 rfl rfl (fun _ => (ho.cell 2 rfl))) ?_
    refine SQ.pure rfl rfl rfl (PureOp.move rfl) ?_
    refine SQ.pure rfl rfl rfl (PureOp.move rfl) ?_
    refine SQ.pure rfl rfl rfl (PureOp.nilCheckp rfl) ?_
    refine SQ.pure rfl rfl rfl (PureOp.fieldAddrT 3 Try.underlying59 rfl sz38 rfl rfl) ?_
    refine SQ.pure rfl rfl rfl (PureOp.load (v := .slice ga G.length gc) Try.underlying38 rfl rfl (fun _ => (ho.cell 3 rfl))) ?_
    refine SQ.pure rfl rfl rfl (PureOp.move rfl) ?_
    refine SQ.pure rfl rfl rfl (PureOp.indexAddrN Try.underlying38 sz47 rfl rfl (AoOk.in_ sG) (fun _ => by omega)) ?_
    refine SQ.pure rfl rfl rfl (PureOp.fieldAddr 1 Try.underlying47 rfl rfl sz3 rfl) ?_
    refine SQ.pure rfl rfl rfl (PureOp.load (v := .int .i64 ((nth G k).2.1)) Try.underlying3 rfl rfl (fun _ => (CellIs.in_ sG k 1 (by omega) (by omega)))) ?_
    refine SQ.calle rfl rfl rfl rfl rfl rfl callable35 (fun w hw => rfind_ok b T R A cl G ta ra aa ga n tc rc ac gc hM hn hR h9 hA hK hG ((nth G k).2.1) w (ho.below hw.below) (sT.below hw.below) (sR.below hw.below) (sA.below hw.below) (sG.below hw.below)) ?_
    refine SQ.pure rfl rfl rfl (PureOp.indexAddr Try.underlying42 sz4 rfl rfl (AoOk.in_ sA) (fun _ => by omega)) ?_
    refine SQ.pure rfl rfl rfl (PureOp.load (v := .bool (nth A ((ixT T ((nth G k).2.1)).toNat))) Try.underlying4 rfl rfl (fun _ => (CellIs.in_ sA ((ixT T ((nth G k).2.1)).toNat) 0 (by omega) (by omega)))) ?_
    refine SQ.pure rfl rfl rfl (PureOp.not rfl) ?_
    refine SQ.nil_then ?_
    refine WC.cond rfl (fun h2 => ?_) (fun h2 => ?_)
    · try simp only [Bool.and_eq_true, Bool.or_eq_true, Bool.not_eq_true', Bool.not_eq_false', Bool.and_eq_false_iff, Bool.or_eq_false_iff, decide_eq_true_eq, decide_eq_false_iff_not, Int.not_lt, Int.not_le, ne_eq, Decidable.not_not] at h2
      refine WC.region ?_
      refine SL.pure rfl rfl rfl (PureOp.move rfl) ?_
      refine SL.pure rfl rfl rfl (PureOp.move rfl) ?_
      refine SL.pure rfl rfl rfl (PureOp.nilCheckp rfl) ?_
      refine SL.pure rfl rfl rfl (PureOp.fieldAddrT 3 Try.underlying59 rfl sz38 rfl rfl) ?_
      refine SL.pure rfl rfl rfl (PureOp.load (v := .slice ga G.length gc) Try.underlying38 rfl rfl (fun _ => (ho.cell 3 rfl))) ?_
      refine SL.pure rfl rfl rfl (PureOp.move rfl) ?_
      refine SL.pure rfl rfl rfl (PureOp.indexAddrN Try.underlying38 sz47 rfl rfl (AoOk.in_ sG) (fun _ => by omega)) ?_
      refine SL.pure rfl rfl rfl (PureOp.loads (vs := [.int .i64 ((nth G k).1), .int .i64 ((nth G k).2.1), .int .i64 ((nth G k).2.2)]) Try.underlying47 rfl rfl (fun _ => (RowIs.in_ sG k 0 3 (by omega) (by omega))) sz47) ?_
      refine SL.buildSlice rfl rfl Try.underlying38 elem47 rfl rfl rfl rfl (fun b1 hb1 => ?_)
      refine SL.norm [_, _] rfl ?_
      refine SL.append 0 rfl rfl Try.underlying38 elem47 rfl rfl rfl rfl (SrcIs.own 1 rfl) (by rfl) (by omega) (by omega) (fun ao1_ cap1_ => ?_)
      refine SL.itemxs 0 rfl (show _ = cellsOf encBag (L ++ [nth G k]) from by rw [cellsOf_append, cellsOf_one]; rfl) ?_
      refine SL.norm [_, _] rfl ?_
      refine SL.pure rfl rfl rfl (PureOp.assign rfl) ?_
      refine SL.nil ?_
      refine QX.normal_in ?_
      refine QX.then_ ?_
      refine WC.region ?_
      refine SL.pure rfl rfl rfl (PureOp.move rfl) ?_
      refine SL.pure rfl rfl rfl (PureOp.addN (k := 1) rfl rfl (fun _ => by omega)) ?_
      refine SL.pure rfl rfl rfl (PureOp.assign rfl) ?_
      refine SL.nil ?_
      refine QX.round (σ := Nat × Nat × List Bag × Option Addr × Nat) (Ef := fun q_ => [(0, 0, .pointer (some ⟨b, 0, none⟩)), (2, 0, .slice none 0 0), (4, 0, .int .i64 ((q_.1 : Nat) : Int)), (3, 0, .slice q_.2.2.2.1 q_.2.1 q_.2.2.2.2)]) (Hf := fun q_ => [Item.own w0.heap.size q_.2.2.2.1 q_.2.1 q_.2.2.2.2 47 3 (cellsOf encBag (q_.2.2.1))]) (I := fun q_ => (q_.1 ≤ G.length ∧ q_.2.1 ≤ q_.1 ∧ q_.2.1 = q_.2.2.1.length) ∧ q_.2.2.1 = missL T A (G.take q_.1)) (μ := fun q_ => G.length - q_.1) (s := (k, m, L, a, c)) 1 ((k + 1, m + 1, L ++ [nth G k], ao1_, cap1_)) ⟨⟨⟨(by first | omega | (dsimp only; omega)), (by first | omega | (dsimp only; omega)), by simp; omega⟩, by rw [missL_take (by omega), if_pos (by unfold lostB; rw [h2]; rfl), hv]⟩, by first | omega | (dsimp only; omega)⟩ ⟨rfl, rfl, rfl, rfl, rfl, rfl, rfl, rfl, trivial⟩ rfl
    · try simp only [Bool.and_eq_true, Bool.or_eq_true, Bool.not_eq_true', Bool.not_eq_false', Bool.and_eq_false_iff, Bool.or_eq_false_iff, decide_eq_true_eq, decide_eq_false_iff_not, Int.not_lt, Int.not_le, ne_eq, Decidable.not_not] at h2
      refine WC.skip ?_
      refine QX.normal_in ?_
      refine QX.then_ ?_
      refine WC.region ?_
      refine SL.pure rfl rfl rfl (PureOp.move rfl) ?_
      refine SL.pure rfl rfl rfl (PureOp.addN (k := 1) rfl rfl (fun _ => by omega)) ?_
      refine SL.pure rfl rfl rfl (PureOp.assign rfl) ?_
      refine SL.nil ?_
      refine QX.round (σ := Nat × Nat × List Bag × Option Addr × Nat) (Ef := fun q_ => [(0, 0, .pointer (some ⟨b, 0, none⟩)), (2, 0, .slice none 0 0), (4, 0, .int .i64 ((q_.1 : Nat) : Int)), (3, 0, .slice q_.2.2.2.1 q_.2.1 q_.2.2.2.2)]) (Hf := fun q_ => [Item.own w0.heap.size q_.2.2.2.1 q_.2.1 q_.2.2.2.2 47 3 (cellsOf encBag (q_.2.2.1))]) (I := fun q_ => (q_.1 ≤ G.length ∧ q_.2.1 ≤ q_.1 ∧ q_.2.1 = q_.2.2.1.length) ∧ q_.2.2.1 = missL T A (G.take q_.1)) (μ := fun q_ => G.length - q_.1) (s := (k, m, L, a, c)) 1 ((k + 1, m, L, a, c)) ⟨⟨⟨(by first | omega | (dsimp only; omega)), (by first | omega | (dsimp only; omega)), hm⟩, by rw [missL_take (by omega), if_neg (by unfold lostB; rw [h2]; decide), hv]⟩, by first | omega | (dsimp only; omega)⟩ ⟨rfl, rfl, rfl, rfl, rfl, rfl, rfl, rfl, trivial⟩ rfl
  · try simp only [Bool.and_eq_true, Bool.or_eq_true, Bool.not_eq_true', Bool.not_eq_false', Bool.and_eq_false_iff, Bool.or_eq_false_iff, decide_eq_true_eq, decide_eq_false_iff_not, Int.not_lt, Int.not_le, ne_eq, Decidable.not_not] at h1
    refine WC.exit ?_
    refine QX.exit_then ?_
    refine QX.exit_then ?_
    refine QX.exit_hit ?_
    refine QX.then_ ?_
    refine WC.seq ?_
    refine WC.region ?_
    refine SL.pure rfl rfl rfl (PureOp.move rfl) ?_
    refine SL.pure rfl rfl rfl (PureOp.assign rfl) ?_
    refine SL.nil_then ?_
    refine WC.ret ?_
    refine QX.ret1 rfl rfl ?_
    intro w hw
    obtain rfl : k = G.length := by omega
    rw [List.take_length] at hv
    subst hv
    obtain rfl : m = _ := hm
    exact ⟨_, _, rfl, hw.mem (i := 0) rfl⟩

set_option maxHeartbeats 4000000 in
set_option maxRecDepth 100000 in
theorem plist_ok (b : Nat) (T R : List Int) (A : List Bool) (cl : Bool) (G : List Bag) (ta ra aa ga : Option Addr) (n tc rc ac gc : Nat) (hM : Made T R) (hn : n = T.length) (hR : R.length = n) (h9 : n ≤ 999) (hA : A.length = n) (hK : Known T G) (hG : G.length ≤ 500) (x : Bool) (w0 : World) (ho : ObjIn w0 b [.bool true, .bool cl, .slice ta n tc, .slice ra n rc, .slice aa n ac, .slice ga G.length gc]) (sT : SliceIn w0 1 ta n tc (rowsF encI T)) (sR : SliceIn w0 1 ra n rc (rowsF encI R)) (sA : SliceIn w0 1 aa n ac (rowsF encBo A)) (sG : SliceIn w0 3 ga G.length gc (rowsF encBag G)) : FnC Try.prog 36 [.pointer (some ⟨b, 0, none⟩), .bool x] w0 fun v w' => ∃ a c, v = .slice a (listL T A x n).length c ∧ w'.ownsRow w0.heap.size 3 1 (.slice a (listL T A x n).length c) (listL T A x n).length (cellsOf encI (listL T A x n)) := by
  refine fnc (N := 33) Try.func36 rfl rfl rfl ?_
  refine WC.seq ?_
  refine WC.region ?_
  refine SL.pure rfl rfl rfl (PureOp.assign rfl) ?_
  refine SL.nil_then ?_
  refine WC.seq ?_
  refine WC.region ?_
  refine SL.addnil 3 1 ?_
  refine SL.pure rfl rfl rfl (PureOp.assign rfl) ?_
  refine SL.nil_then ?_
  refine WC.seq ?_
  refine WC.seq ?_
  refine WC.region ?_
  refine SL.pure rfl rfl rfl (PureOp.move rfl) ?_
  refine SL.pure rfl rfl rfl (PureOp.nilCheckp rfl) ?_
  refine SL.pure rfl rfl rfl (PureOp.fieldAddrT 2 Try.underlying44 rfl sz22 rfl rfl) ?_
  refine SL.pure rfl rfl rfl (PureOp.load (v := .slice ta n tc) Try.underlying22 rfl rfl (fun _ => (ho.cell 2 rfl))) ?_
  refine SL.pure rfl rfl rfl (PureOp.len rfl Try.underlying22) ?_
  refine SL.pure rfl rfl rfl (PureOp.move rfl) ?_
  refine SL.nil_then ?_
  refine WC.block ?_
  refine WC.loop (σ := Nat × Nat × List Int × Option Addr × Nat) (fun q_ => [(0, 0, .pointer (some ⟨b, 0, none⟩)), (1, 0, .bool x), (4, 0, .slice none 0 0), (8, 0, .pointer (some ⟨b, 0, none⟩)), (9, 0, .pointer (some ⟨b, 0, none⟩)), (10, 0, .pointer (some ⟨b, 2, none⟩)), (11, 0, .slice ta n tc), (12, 0, .int .i64 ((n : Nat) : Int)), (13, 0, .int .i64 ((q_.1 : Nat) : Int)), (5, 0, .slice q_.2.2.2.1 q_.2.1 q_.2.2.2.2)]) (fun q_ => [Item.own w0.heap.size q_.2.2.2.1 q_.2.1 q_.2.2.2.2 3 1 (cellsOf encI (q_.2.2.1))]) (fun q_ => (q_.1 ≤ n ∧ q_.2.1 ≤ q_.1 ∧ q_.2.1 = q_.2.2.1.length) ∧ q_.2.2.1 = listL T A x q_.1) (fun q_ => n - q_.1) 1 ((0, 0, [], none, 0)) (⟨⟨Nat.zero_le _, Nat.le_refl _, rfl⟩, rfl⟩) ⟨rfl, rfl, rfl, rfl, rfl, rfl, rfl, rfl, rfl, rfl, rfl, rfl, rfl, rfl, rfl, rfl, rfl, rfl, rfl, rfl, trivial⟩ rfl ?_
  rintro ⟨k, m, L, a, c⟩ ⟨⟨hk, hm1, hm⟩, hv⟩
  try dsimp only at *
  refine WC.seq ?_
  refine WC.region ?_
  refine SL.pure rfl rfl rfl (PureOp.lss rfl rfl) ?_
  refine SL.nil_then ?_
  refine WC.seq ?_
  refine WC.cond rfl (fun h1 => ?_) (fun h1 => ?_)
  · try simp only [Bool.and_eq_true, Bool.or_eq_true, Bool.not_eq_true', Bool.not_eq_false', Bool.and_eq_false_iff, Bool.or_eq_false_iff, decide_eq_true_eq, decide_eq_false_iff_not, Int.not_lt, Int.not_le, ne_eq, Decidable.not_not] at h1
    refine WC.skip ?_
    refine QX.then_ ?_
    refine WC.seq ?_
    refine WC.block ?_
    refine WC.seq ?_
    refine WC.region ?_
    refine SL.pure rfl rfl rfl (PureOp.move rfl) ?_
    refine SL.pure rfl rfl rfl (PureOp.indexAddrN Try.underlying22 sz3 rfl rfl (AoOk.in_ sT) (fun _ => by omega)) ?_
    refine SL.pure rfl rfl rfl (PureOp.load (v := .int .i64 (nth T k)) Try.underlying3 rfl rfl (fun _ => (CellIs.in_ sT k 0 (by omega) (by omega)))) ?_
    refine SL.pure rfl rfl rfl (PureOp.assign rfl) ?_
    refine SL.pure rfl rfl rfl (PureOp.assign rfl) ?_
    refine SL.nil_then ?_
    refine WC.seq ?_
    refine WC.region ?_
    refine SL.pure rfl rfl rfl (PureOp.move rfl) ?_
    refine SL.pure rfl rfl rfl (PureOp.nilCheckp rfl) ?_
    refine SL.pure rfl rfl rfl (PureOp.fieldAddrT 4 Try.underlying44 rfl sz42 rfl rfl) ?_
    refine SL.pure rfl rfl rfl (PureOp.load (v := .slice aa n ac) Try.underlying42 rfl rfl (fun _ => (ho.cell 4 rfl))) ?_
    refine SL.pure rfl rfl rfl (PureOp.move rfl) ?_
    refine SL.pure rfl rfl rfl (PureOp.indexAddrN Try.underlying42 sz4 rfl rfl (AoOk.in_ sA) (fun _ => by omega)) ?_
    refine SL.pure rfl rfl rfl (PureOp.load (v := .bool (nth A k)) Try.underlying4 rfl rfl (fun _ => (CellIs.in_ sA k 0 (by omega) (by omega)))) ?_
    refine SL.pure rfl rfl rfl (PureOp.move rfl) ?_
    refine SL.pure rfl rfl rfl (PureOp.eqlb rfl rfl Try.underlying4) ?_
    refine SL.nil_then ?_
    refine WC.cond rfl (fun h2 => ?_) (fun h2 => ?_)
    · try simp only [Bool.and_eq_true, Bool.or_eq_true, Bool.not_eq_true', Bool.not_eq_false', Bool.and_eq_false_iff, Bool.or_eq_false_iff, decide_eq_true_eq, decide_eq_false_iff_not, Int.not_lt, Int.not_le, ne_eq, Decidable.not_not] at h2
      refine WC.region ?_
      refine SL.pure rfl rfl rfl (PureOp.move rfl) ?_
      refine SL.pure rfl rfl rfl (PureOp.move rfl) ?_
      refine SL.buildSlice rfl rfl Try.underlying22 elem3 rfl rfl rfl rfl (fun b1 hb1 => ?_)
      refine SL.norm [_, _] rfl ?_
      refine SL.append 0 rfl rfl Try.underlying22 elem3 rfl rfl rfl rfl (SrcIs.own 1 rfl) (by rfl) (by omega) (by omega) (fun ao1_ cap1_ => ?_)
      refine SL.itemxs 0 rfl (show _ = cellsOf encI (L ++ [nth T k]) from by rw [cellsOf_append, cellsOf_one]; rfl) ?_
      refine SL.norm [_, _] rfl ?_
      refine SL.pure rfl rfl rfl (PureOp.assign rfl) ?_
      refine SL.nil ?_
      refine QX.normal_in ?_
      refine QX.then_ ?_
      refine WC.region ?_
      refine SL.pure rfl rfl rfl (PureOp.addN (k := 1) rfl rfl (fun _ => by omega)) ?_
      refine SL.pure rfl rfl rfl (PureOp.move rfl) ?_
      refine SL.nil ?_
      refine QX.round (σ := Nat × Nat × List Int × Option Addr × Nat) (Ef := fun q_ => [(0, 0, .pointer (some ⟨b, 0, none⟩)), (1, 0, .bool x), (4, 0, .slice none 0 0), (8, 0, .pointer (some ⟨b, 0, none⟩)), (9, 0, .pointer (some ⟨b, 0, none⟩)), (10, 0, .pointer (some ⟨b, 2, none⟩)), (11, 0, .slice ta n tc), (12, 0, .int .i64 ((n : Nat) : Int)), (13, 0, .int .i64 ((q_.1 : Nat) : Int)), (5, 0, .slice q_.2.2.2.1 q_.2.1 q_.2.2.2.2)]) (Hf := fun q_ => [Item.own w0.heap.size q_.2.2.2.1 q_.2.1 q_.2.2.2.2 3 1 (cellsOf encI (q_.2.2.1))]) (I := fun q_ => (q_.1 ≤ n ∧ q_.2.1 ≤ q_.1 ∧ q_.2.1 = q_.2.2.1.length) ∧ q_.2.2.1 = listL T A x q_.1) (μ := fun q_ => n - q_.1) (s := (k, m, L, a, c)) 1 ((k + 1, m + 1, L ++ [nth T k], ao1_, cap1_)) ⟨⟨⟨(by first | omega | (dsimp only; omega)), (by first | omega | (dsimp only; omega)), by simp; omega⟩, by rw [listL, if_pos (by simpa using h2), hv]⟩, by first | omega | (dsimp only; omega)⟩ ⟨rfl, rfl, rfl, rfl, rfl, rfl, rfl, rfl, rfl, rfl, rfl, rfl, rfl, rfl, rfl, rfl, rfl, rfl, rfl, rfl, trivial⟩ rfl
    · try simp only [Bool.and_eq_true, Bool.or_eq_true, Bool.not_eq_true', Bool.not_eq_false', Bool.and_eq_false_iff, Bool.or_eq_false_iff, decide_eq_true_eq, decide_eq_false_iff_not, Int.not_lt, Int.not_le, ne_eq, Decidable.not_not] at h2
      refine WC.skip ?_
      refine QX.normal_in ?_
      refine QX.then_ ?_
      refine WC.region ?_
      refine SL.pure rfl rfl rfl (PureOp.addN (k := 1) rfl rfl (fun _ => by omega)) ?_
      refine SL.pure rfl rfl rfl (PureOp.move rfl) ?_
      refine SL.nil ?_
      refine QX.round (σ := Nat × Nat × List Int × Option Addr × Nat) (Ef := fun q_ => [(0, 0, .pointer (some ⟨b, 0, none⟩)), (1, 0, .bool x), (4, 0, .slice none 0 0), (8, 0, .pointer (some ⟨b, 0, none⟩)), (9, 0, .pointer (some ⟨b, 0, none⟩)), (10, 0, .pointer (some ⟨b, 2, none⟩)), (11, 0, .slice ta n tc), (12, 0, .int .i64 ((n : Nat) : Int)), (13, 0, .int .i64 ((q_.1 : Nat) : Int)), (5, 0, .slice q_.2.2.2.1 q_.2.1 q_.2.2.2.2)]) (Hf := fun q_ => [Item.own w0.heap.size q_.2.2.2.1 q_.2.1 q_.2.2.2.2 3 1 (cellsOf encI (q_.2.2.1))]) (I := fun q_ => (q_.1 ≤ n ∧ q_.2.1 ≤ q_.1 ∧ q_.2.1 = q_.2.2.1.length) ∧ q_.2.2.1 = listL T A x q_.1) (μ := fun q_ => n - q_.1) (s := (k, m, L, a, c)) 1 ((k + 1, m, L, a, c)) ⟨⟨⟨(by first | omega | (dsimp only; omega)), (by first | omega | (dsimp only; omega)), hm⟩, by rw [listL, if_neg (by simpa using h2), hv]⟩, by first | omega | (dsimp only; omega)⟩ ⟨rfl, rfl, rfl, rfl, rfl, rfl, rfl, rfl, rfl, rfl, rfl, rfl, rfl, rfl, rfl, rfl, rfl, rfl, rfl, rfl, trivial⟩ rfl
  · try simp only [Bool.and_eq_true, Bool.or_eq_true, Bool.not_eq_true', Bool.not_eq_false', Bool.and_eq_false_iff, Bool.or_eq_false_iff, decide_eq_true_eq, decide_eq_false_iff_not, Int.not_lt, Int.not_le, ne_eq, Decidable.not_not] at h1
    refine WC.exit ?_
    refine QX.exit_then ?_
    refine QX.exit_then ?_
    refine QX.exit_hit ?_
    refine QX.then_ ?_
    refine WC.seq ?_
    refine WC.region ?_
    refine SL.pure rfl rfl rfl (PureOp.move rfl) ?_
    refine SL.pure rfl rfl rfl (PureOp.assign rfl) ?_
    refine SL.nil_then ?_
    refine WC.ret ?_
    refine QX.ret1 rfl rfl ?_
    intro w hw
    obtain rfl : k = n := by omega
    subst hv
    obtain rfl : m = _ := hm
    exact ⟨_, _, rfl, hw.mem (i := 0) rfl⟩

set_option maxHeartbeats 4000000 in
set_option maxRecDepth 100000 in
theorem rlist_ok (b : Nat) (T R : List Int) (A : List Bool) (cl : Bool) (G : List Bag) (ta ra aa ga : Option Addr) (n tc rc ac gc : Nat) (hM : Made T R) (hn : n = T.length) (hR : R.length = n) (h9 : n ≤ 999) (hA : A.length = n) (hK : Known T G) (hG : G.length ≤ 500) (x : Bool) (w0 : World) (ho : ObjIn w0 b [.slice ta n tc, .slice ra n rc, .slice aa n ac, .slice ga G.length gc, .bool true, .bool cl]) (sT : SliceIn w0 1 ta n tc (rowsF encI T)) (sR : SliceIn w0 1 ra n rc (rowsF encI R)) (sA : SliceIn w0 1 aa n ac (rowsF encBo A)) (sG : SliceIn w0 3 ga G.length gc (rowsF encBag G)) : FnC Try.prog 37 [.pointer (some ⟨b, 0, none⟩), .bool x] w0 fun v w' => ∃ a c, v = .slice a (listL T A x n).length c ∧ w'.ownsRow w0.heap.size 3 1 (.slice a (listL T A x n).length c) (listL T A x n).length (cellsOf encI (listL T A x n)) := by
  refine fnc (N := 41) Try.func37 rfl rfl rfl ?_
  refine WC.seq ?_
  refine WC.region ?_
  refine SL.pure rfl rfl rfl (PureOp.assign rfl) ?_
  refine SL.nil_then ?_
  refine WC.seq ?_
  refine WC.region ?_
  refine SL.addnil 3 1 ?_
  refine SL.pure rfl rfl rfl (PureOp.assign rfl) ?_
  refine SL.nil_then ?_
  refine WC.seq ?_
  refine WC.seq ?_
  refine WC.region ?_
  refine SL.pure rfl rfl rfl (PureOp.assign rfl) ?_
  refine SL.nil_then ?_
  refine WC.block ?_
  refine WC.loop (σ := Nat × Nat × List Int × Option Addr × Nat) (fun q_ => [(0, 0, .pointer (some ⟨b, 0, none⟩)), (1, 0, .bool x), (4, 0, .slice none 0 0), (6, 0, .int .i64 ((q_.1 : Nat) : Int)), (5, 0, .slice q_.2.2.2.1 q_.2.1 q_.2.2.2.2)]) (fun q_ => [Item.own w0.heap.size q_.2.2.2.1 q_.2.1 q_.2.2.2.2 3 1 (cellsOf encI (q_.2.2.1))]) (fun q_ => (q_.1 ≤ n ∧ q_.2.1 ≤ q_.1 ∧ q_.2.1 = q_.2.2.1.length) ∧ q_.2.2.1 = listL T A x q_.1) (fun q_ => n - q_.1) 1 ((0, 0, [], none, 0)) (⟨⟨Nat.zero_le _, Nat.le_refl _, rfl⟩, rfl⟩) ⟨rfl, rfl, rfl, rfl, rfl, rfl, rfl, rfl, rfl, rfl, trivial⟩ rfl ?_
  rintro ⟨k, m, L, a, c⟩ ⟨⟨hk, hm1, hm⟩, hv⟩
  try dsimp only at *
  refine WC.seq ?_
  refine WC.seq ?_
  refine WC.region ?_
  refine SL.pure rfl rfl rfl (PureOp.move rfl) ?_
  refine SL.calle rfl rfl rfl rfl rfl rfl callable34 (fun w hw => rnone_ok b T R A cl G ta ra aa ga n tc rc ac gc hM hn hR h9 hA hK hG w (ho.below hw.below) (sT.below hw.below) (sR.below hw.below) (sA.below hw.below) (sG.below hw.below)) ?_
  refine SL.norm [_] rfl ?_
  refine SL.pure rfl rfl rfl (PureOp.not rfl) ?_
  refine SL.pure rfl rfl rfl (PureOp.move rfl) ?_
  refine SL.ung rfl rfl rfl rfl ?_
  refine SL.pure rfl rfl rfl (PureOp.move rfl) ?_
  refine SL.ung rfl rfl rfl rfl ?_
  refine SL.pure rfl rfl rfl (PureOp.move rfl) ?_
  refine SL.ung rfl rfl rfl rfl ?_
  refine SL.pure rfl rfl rfl (PureOp.nilCheckp rfl) ?_
  refine SL.ung rfl rfl rfl rfl ?_
  refine SL.pure rfl rfl rfl (PureOp.fieldAddrT 0 Try.underlying59 rfl sz22 rfl rfl) ?_
  refine SL.ung rfl rfl rfl rfl ?_
  refine SL.pure rfl rfl rfl (PureOp.load (v := .slice ta n tc) Try.underlying22 rfl rfl (fun _ => (ho.cell 0 rfl))) ?_
  refine SL.ung rfl rfl rfl rfl ?_
  refine SL.pure rfl rfl rfl (PureOp.len rfl Try.underlying22) ?_
  refine SL.ung rfl rfl rfl rfl ?_
  refine SL.pure rfl rfl rfl (PureOp.lss rfl rfl) ?_
  refine SL.pure rfl rfl rfl (PureOp.pickT rfl rfl) ?_
  refine SL.nil_then ?_
  refine WC.cond rfl (fun h1 => ?_) (fun h1 => ?_)
  · try simp only [Bool.and_eq_true, Bool.or_eq_true, Bool.not_eq_true', Bool.not_eq_false', Bool.and_eq_false_iff, Bool.or_eq_false_iff, decide_eq_true_eq, decide_eq_false_iff_not, Int.not_lt, Int.not_le, ne_eq, Decidable.not_not] at h1
    refine WC.skip ?_
    refine QX.then_ ?_
    refine WC.seq ?_
    refine WC.block ?_
    refine WC.seq ?_
    refine WC.region ?_
    refine SL.pure rfl rfl rfl (PureOp.move rfl) ?_
    refine SL.pure rfl rfl rfl (PureOp.nilCheckp rfl) ?_
    refine SL.pure rfl rfl rfl (PureOp.fieldAddrT 2 Try.underlying59 rfl sz42 rfl rfl) ?_
    refine SL.pure rfl rfl rfl (PureOp.load (v := .slice aa n ac) Try.underlying42 rfl rfl (fun _ => (ho.cell 2 rfl))) ?_
    refine SL.pure rfl rfl rfl (PureOp.move rfl) ?_
    refine SL.pure rfl rfl rfl (PureOp.indexAddrN Try.underlying42 sz4 rfl rfl (AoOk.in_ sA) (fun _ => by omega)) ?_
    refine SL.pure rfl rfl rfl (PureOp.load (v := .bool (nth A k)) Try.underlying4 rfl rfl (fun _ => (CellIs.in_ sA k 0 (by omega) (by omega)))) ?_
    refine SL.pure rfl rfl rfl (PureOp.move rfl) ?_
    refine SL.pure rfl rfl rfl (PureOp.eqlb rfl rfl Try.underlying4) ?_
    refine SL.nil_then ?_
    refine WC.cond rfl (fun h2 => ?_) (fun h2 => ?_)
    · try simp only [Bool.and_eq_true, Bool.or_eq_true, Bool.not_eq_true', Bool.not_eq_false', Bool.and_eq_false_iff, Bool.or_eq_false_iff, decide_eq_true_eq, decide_eq_false_iff_not, Int.not_lt, Int.not_le, ne_eq, Decidable.not_not] at h2
      refine WC.region ?_
      refine SL.pure rfl rfl rfl (PureOp.move rfl) ?_
      refine SL.pure rfl rfl rfl (PureOp.move rfl) ?_
      refine SL.pure rfl rfl rfl (PureOp.nilCheckp rfl) ?_
      refine SL.pure rfl rfl rfl (PureOp.fieldAddrT 0 Try.underlying59 rfl sz22 rfl rfl) ?_
      refine SL.pure rfl rfl rfl (PureOp.load (v := .slice ta n tc) Try.underlying22 rfl rfl (fun _ => (ho.cell 0 rfl))) ?_
      refine SL.pure rfl rfl rfl (PureOp.move rfl) ?_
      refine SL.pure rfl rfl rfl (PureOp.indexAddrN Try.underlying22 sz3 rfl rfl (AoOk.in_ sT) (fun _ => by omega)) ?_
      refine SL.pure rfl rfl rfl (PureOp.load (v := .int .i64 (nth T k)) Try.underlying3 rfl rfl (fun _ => (CellIs.in_ sT k 0 (by omega) (by omega)))) ?_
      refine SL.buildSlice rfl rfl Try.underlying22 elem3 rfl rfl rfl rfl (fun b1 hb1 => ?_)
      refine SL.norm [_, _] rfl ?_
      refine SL.append 0 rfl rfl Try.underlying22 elem3 rfl rfl rfl rfl (SrcIs.own 1 rfl) (by rfl) (by omega) (by omega) (fun ao1_ cap1_ => ?_)
      refine SL.itemxs 0 rfl (show _ = cellsOf encI (L ++ [nth T k]) from by rw [cellsOf_append, cellsOf_one]; rfl) ?_
      refine SL.norm [_, _] rfl ?_
      refine SL.pure rfl rfl rfl (PureOp.assign rfl) ?_
      refine SL.nil ?_
      refine QX.normal_in ?_
      refine QX.then_ ?_
      refine WC.region ?_
      refine SL.pure rfl rfl rfl (PureOp.move rfl) ?_
      refine SL.pure rfl rfl rfl (PureOp.addN (k := 1) rfl rfl (fun _ => by omega)) ?_
      refine SL.pure rfl rfl rfl (PureOp.assign rfl) ?_
      refine SL.nil ?_
      refine QX.round (σ := Nat × Nat × List Int × Option Addr × Nat) (Ef := fun q_ => [(0, 0, .pointer (some ⟨b, 0, none⟩)), (1, 0, .bool x), (4, 0, .slice none 0 0), (6, 0, .int .i64 ((q_.1 : Nat) : Int)), (5, 0, .slice q_.2.2.2.1 q_.2.1 q_.2.2.2.2)]) (Hf := fun q_ => [Item.own w0.heap.size q_.2.2.2.1 q_.2.1 q_.2.2.2.2 3 1 (cellsOf encI (q_.2.2.1))]) (I := fun q_ => (q_.1 ≤ n ∧ q_.2.1 ≤ q_.1 ∧ q_.2.1 = q_.2.2.1.length) ∧ q_.2.2.1 = listL T A x q_.1) (μ := fun q_ => n - q_.1) (s := (k, m, L, a, c)) 1 ((k + 1, m + 1, L ++ [nth T k], ao1_, cap1_)) ⟨⟨⟨(by first | omega | (dsimp only; omega)), (by first | omega | (dsimp only; omega)), by simp; omega⟩, by rw [listL, if_pos (by simpa using h2), hv]⟩, by first | omega | (dsimp only; omega)⟩ ⟨rfl, rfl, rfl, rfl, rfl, rfl, rfl, rfl, rfl, rfl, trivial⟩ rfl
    · try simp only [Bool.and_eq_true, Bool.or_eq_true, Bool.not_eq_true', Bool.not_eq_false', Bool.and_eq_false_iff, Bool.or_eq_false_iff, decide_eq_true_eq, decide_eq_false_iff_not, Int.not_lt, Int.not_le, ne_eq, Decidable.not_not] at h2
      refine WC.skip ?_
      refine QX.normal_in ?_
      refine QX.then_ ?_
      refine WC.region ?_
      refine SL.pure rfl rfl rfl (PureOp.move rfl) ?_
      refine SL.pure rfl rfl rfl (PureOp.addN (k := 1) rfl rfl (fun _ => by omega)) ?_
      refine SL.pure rfl rfl rfl (PureOp.assign rfl) ?_
      refine SL.nil ?_
      refine QX.round (σ := Nat × Nat × List Int × Option Addr × Nat) (Ef := fun q_ => [(0, 0, .pointer (some ⟨b, 0, none⟩)), (1, 0, .bool x), (4, 0, .slice none 0 0), (6, 0, .int .i64 ((q_.1 : Nat) : Int)), (5, 0, .slice q_.2.2.2.1 q_.2.1 q_.2.2.2.2)]) (Hf := fun q_ => [Item.own w0.heap.size q_.2.2.2.1 q_.2.1 q_.2.2.2.2 3 1 (cellsOf encI (q_.2.2.1))]) (I := fun q_ => (q_.1 ≤ n ∧ q_.2.1 ≤ q_.1 ∧ q_.2.1 = q_.2.2.1.length) ∧ q_.2.2.1 = listL T A x q_.1) (μ := fun q_ => n - q_.1) (s := (k, m, L, a, c)) 1 ((k + 1, m, L, a, c)) ⟨⟨⟨(by first | omega | (dsimp only; omega)), (by first | omega | (dsimp only; omega)), hm⟩, by rw [listL, if_neg (by simpa using h2), hv]⟩, by first | omega | (dsimp only; omega)⟩ ⟨rfl, rfl, rfl, rfl, rfl, rfl, rfl, rfl, rfl, rfl, trivial⟩ rfl
  · try simp only [Bool.and_eq_true, Bool.or_eq_true, Bool.not_eq_true', Bool.not_eq_false', Bool.and_eq_false_iff, Bool.or_eq_false_iff, decide_eq_true_eq, decide_eq_false_iff_not, Int.not_lt, Int.not_le, ne_eq, Decidable.not_not] at h1
    refine WC.exit ?_
    refine QX.exit_then ?_
    refine QX.exit_then ?_
    refine QX.exit_hit ?_
    refine QX.then_ ?_
    refine WC.seq ?_
    refine WC.region ?_
    refine SL.pure rfl rfl rfl (PureOp.move rfl) ?_
    refine SL.pure rfl rfl rfl (PureOp.assign rfl) ?_
    refine SL.nil_then ?_
    refine WC.ret ?_
    refine QX.ret1 rfl rfl ?_
    intro w hw
    obtain rfl : k = n := by omega
    subst hv
    obtain rfl : m = _ := hm
    exact ⟨_, _, rfl, hw.mem (i := 0) rfl⟩

set_option maxHeartbeats 4000000 in
set_option maxRecDepth 100000 in
theorem pwait_ok (b : Nat) (T R : List Int) (A : List Bool) (cl : Bool) (G : List Bag) (ta ra aa ga : Option Addr) (n tc rc ac gc : Nat) (hM : Made T R) (hn : n = T.length) (hR : R.length = n) (h9 : n ≤ 999) (hA : A.length = n) (hK : Known T G) (hG : G.length ≤ 500) (w0 : World) (ho : ObjIn w0 b [.bool true, .bool cl, .slice ta n tc, .slice ra n rc, .slice aa n ac, .slice ga G.length gc]) (sT : SliceIn w0 1 ta n tc (rowsF encI T)) (sR : SliceIn w0 1 ra n rc (rowsF encI R)) (sA : SliceIn w0 1 aa n ac (rowsF encBo A)) (sG : SliceIn w0 3 ga G.length gc (rowsF encBag G)) : FnC Try.prog 17 [.pointer (some ⟨b, 0, none⟩)] w0 fun v w' => ∃ a c, v = .slice a (listL T A false n).length c ∧ w'.ownsRow w0.heap.size 3 1 (.slice a (listL T A false n).length c) (listL T A false n).length (cellsOf encI (listL T A false n)) := by
  refine fnc (N := 7) Try.func17 rfl rfl rfl ?_
  refine WC.seq ?_
  refine WC.region ?_
  refine SL.pure rfl rfl rfl (PureOp.assign rfl) ?_
  refine SL.nil_then ?_
  refine WC.seq ?_
  refine WC.seq ?_
  refine WC.region ?_
  refine SL.pure rfl rfl rfl (PureOp.move rfl) ?_
  refine SL.pure rfl rfl rfl (PureOp.eqlpnil1 rfl rfl Try.underlying23) ?_
  refine SL.nil_then ?_
  refine WC.condF rfl ?_
  refine WC.skip ?_
  refine QX.then_ ?_
  refine WC.seq ?_
  refine WC.region ?_
  refine SL.pure rfl rfl rfl (PureOp.move rfl) ?_
  refine SL.callo (fun qa qc => .slice qa ((listL T A false n).length) qc) rfl rfl rfl rfl rfl rfl callable36 (fun w hw => plist_ok b T R A cl G ta ra aa ga n tc rc ac gc hM hn hR h9 hA hK hG false w (ho.below hw.below) (sT.below hw.below) (sR.below hw.below) (sA.below hw.below) (sG.below hw.below)) (fun qa qc => ?_)
  refine SL.norm [_] rfl ?_
  refine SL.pure rfl rfl rfl (PureOp.assign rfl) ?_
  refine SL.nil_then ?_
  refine WC.ret ?_
  refine QX.ret1 rfl rfl ?_
  intro w hw
  exact ⟨_, _, rfl, hw.mem (i := 0) rfl⟩

set_option maxHeartbeats 4000000 in
set_option maxRecDepth 100000 in
theorem rwait_ok (b : Nat) (T R : List Int) (A : List Bool) (cl : Bool) (G : List Bag) (ta ra aa ga : Option Addr) (n tc rc ac gc : Nat) (hM : Made T R) (hn : n = T.length) (hR : R.length = n) (h9 : n ≤ 999) (hA : A.length = n) (hK : Known T G) (hG : G.length ≤ 500) (w0 : World) (ho : ObjIn w0 b [.slice ta n tc, .slice ra n rc, .slice aa n ac, .slice ga G.length gc, .bool true, .bool cl]) (sT : SliceIn w0 1 ta n tc (rowsF encI T)) (sR : SliceIn w0 1 ra n rc (rowsF encI R)) (sA : SliceIn w0 1 aa n ac (rowsF encBo A)) (sG : SliceIn w0 3 ga G.length gc (rowsF encBag G)) : FnC Try.prog 18 [.pointer (some ⟨b, 0, none⟩)] w0 fun v w' => ∃ a c, v = .slice a (listL T A false n).length c ∧ w'.ownsRow w0.heap.size 3 1 (.slice a (listL T A false n).length c) (listL T A false n).length (cellsOf encI (listL T A false n)) := by
  refine fnc (N := 5) Try.func18 rfl rfl rfl ?_
  refine WC.seq ?_
  refine WC.region ?_
  refine SL.pure rfl rfl rfl (PureOp.assign rfl) ?_
  refine SL.nil_then ?_
  refine WC.seq ?_
  refine WC.region ?_
  refine SL.pure rfl rfl rfl (PureOp.move rfl) ?_
  refine SL.callo (fun qa qc => .slice qa ((listL T A false n).length) qc) rfl rfl rfl rfl rfl rfl callable37 (fun w hw => rlist_ok b T R A cl G ta ra aa ga n tc rc ac gc hM hn hR h9 hA hK hG false w (ho.below hw.below) (sT.below hw.below) (sR.below hw.below) (sA.below hw.below) (sG.below hw.below)) (fun qa qc => ?_)
  refine SL.norm [_] rfl ?_
  refine SL.pure rfl rfl rfl (PureOp.assign rfl) ?_
  refine SL.nil_then ?_
  refine WC.ret ?_
  refine QX.ret1 rfl rfl ?_
  intro w hw
  exact ⟨_, _, rfl, hw.mem (i := 0) rfl⟩

end Go.Proofs.Ythbgnjengkjigaa
