import Derived.Test.YtblmafknmeicfaaMtB
namespace Go.Proofs.Ytblmafknmeicfaa
open Go Go.RowKit Eng
set_option linter.unusedVariables false
set_option linter.unusedSimpArgs false

section
variable {P : Program} {N : Nat} {w0 : World} {Q : Exit → Act → World → Prop} {E : Env} {Γ : Gds} {H : Heap} {ops : Array Oper} {rest : List Oper}
theorem SL.calln {α : Type} {o : Oper} {d f : Nat} {x : Operand} {xs : Array Operand} {ts : Array TypeId} {vs : List Value} {t : TypeId} {sz : Nat} {enc : α → List Value} (J : List α → Nat → Prop)
    (ho : o.op = .call { callee := .value x, args := xs, argTypes := ts }) (hg : o.guard = none) (hd : o.dst = some d) (hN : Nat.blt d N = true)
    (hx : ev E Γ 0 x = some (.func (.func f) #[] #[])) (hxs : evs E Γ 0 xs.toList = some vs) (hf : callable P f = true)
    (hC : ∀ w, HeapOk w0 H w → FnC P f vs w fun v w' => ∃ a cap n L, v = .slice a n cap ∧ J L n ∧ w'.ownsRow w.heap.size t sz (.slice a n cap) n (cellsOf enc L))
    (h : ∀ a cap n L, J L n → SL P N w0 ops Q rest ((d, 0, .slice a n cap) :: E) Γ (H ++ [.own w0.heap.size a n cap t sz (cellsOf enc L)])) : SL P N w0 ops Q (o :: rest) E Γ H :=
  SL.call (R := fun w v w' => ∃ a cap n L, v = .slice a n cap ∧ J L n ∧ w'.ownsRow w.heap.size t sz (.slice a n cap) n (cellsOf enc L)) ho hg hd hN hx hxs hf hC fun _ w _ hw _ hb ⟨a, cap, n, L, hv, hJ, hok⟩ =>
    ⟨_, hw.add (x := .own w0.heap.size a n cap t sz (cellsOf enc L)) hb (ownsRow_weaken hok hw.below.size) (own_fresh hok), by rw [hv]; exact h a cap n L hJ⟩
end
set_option maxHeartbeats 4000000 in
set_option maxRecDepth 100000 in
theorem list_any (l : List Int) (ao : Option Addr) (q cap : Nat) (hq : q = l.length) (hM : q ≤ 1048576) (w0 : World) (sI : SliceIn w0 1 ao q cap (rowsF encI l)) : FnC Try.prog 65 [.slice ao q cap] w0 fun v w' => ∃ a cp n L, v = .slice a n cp ∧ FLs L n (2 * q) ∧ w'.ownsRow w0.heap.size 93 2 (.slice a n cp) n (cellsOf encNF L) := by
  refine fnc (N := 58) Try.func65 rfl rfl rfl ?_
  refine WC.seq ?_
  refine WC.region ?_
  refine SL.pure rfl rfl rfl (PureOp.assign rfl) ?_
  refine SL.nil_then ?_
  refine WC.seq ?_
  refine WC.region ?_
  refine SL.addnil 93 2 ?_
  refine SL.pure rfl rfl rfl (PureOp.assign rfl) ?_
  refine SL.nil_then ?_
  refine WC.seq ?_
  refine WC.seq ?_
  refine WC.region ?_
  refine SL.pure rfl rfl rfl (PureOp.assign rfl) ?_
  refine SL.nil_then ?_
  refine WC.block ?_
  refine WC.loop (σ := Nat × Option Addr × Nat × Nat × List NF) (fun q_ => [(0, 0, .slice ao q cap), (2, 0, .slice none 0 0), (4, 0, .int .i64 ((q_.1 : Nat) : Int)), (3, 0, .slice q_.2.1 q_.2.2.2.1 q_.2.2.1)]) (fun q_ => [Item.own w0.heap.size q_.2.1 q_.2.2.2.1 q_.2.2.1 93 2 (cellsOf encNF (q_.2.2.2.2))]) (fun q_ => q_.1 ≤ q ∧ FLs q_.2.2.2.2 q_.2.2.2.1 (2 * q_.1)) (fun q_ => q - q_.1) 1 ((0, none, 0, 0, [])) (⟨Nat.zero_le _, FLs.nil⟩) ⟨rfl, rfl, rfl, rfl, rfl, rfl, rfl, rfl, trivial⟩ rfl ?_
  rintro ⟨i, a, c, n_, L⟩ ⟨hi, hF⟩
  try dsimp only at *
  have hFl := hF.ln.le
  refine WC.seq ?_
  refine WC.seq ?_
  refine WC.region ?_
  refine SL.pure rfl rfl rfl (PureOp.move rfl) ?_
  refine SL.pure rfl rfl rfl (PureOp.move rfl) ?_
  refine SL.pure rfl rfl rfl (PureOp.len rfl Try.underlying73) ?_
  refine SL.pure rfl rfl rfl (PureOp.lss rfl rfl) ?_
  refine SL.nil_then ?_
  refine WC.cond rfl (fun h1 => ?_) (fun h1 => ?_)
  · try simp only [Bool.and_eq_true, Bool.or_eq_true, Bool.not_eq_true', Bool.not_eq_false', Bool.and_eq_false_iff, Bool.or_eq_false_iff, decide_eq_true_eq, decide_eq_false_iff_not, Int.not_lt, Int.not_le, ne_eq, Decidable.not_not] at h1
    refine WC.skip ?_
    refine QX.then_ ?_
    refine WC.seq ?_
    refine WC.block ?_
    refine WC.seq ?_
    refine WC.region ?_
    refine SL.pure rfl rfl rfl (PureOp.move rfl) ?_
    refine SL.calle rfl rfl rfl rfl rfl rfl callable37 (fun w hw => decimal_ok ((i : Nat) : Int) (by omega) w) ?_
    refine SL.norm [_] rfl ?_
    refine SL.pure rfl rfl rfl (PureOp.adds rfl rfl (fun _ => by first | omega | exact at_max (by decide))) ?_
    refine SL.pure rfl rfl rfl (PureOp.assign rfl) ?_
    refine SL.pure rfl rfl rfl (PureOp.assign rfl) ?_
    refine SL.nil_then ?_
    refine WC.seq ?_
    refine WC.seq ?_
    refine WC.region ?_
    refine SL.pure rfl rfl rfl (PureOp.assign rfl) ?_
    refine SL.nil_then ?_
    refine WC.block ?_
    refine WC.loop (σ := Nat × Bool) (fun q_ => [(0, 0, .slice ao q cap), (2, 0, .slice none 0 0), (3, 0, .slice a n_ c), (4, 0, .int .i64 ((i : Nat) : Int)), (5, 0, .string ((⟨#[99, 111, 109, 98, 105, 110, 101, 32]⟩) ++ (decS ((i : Nat) : Int)))), (8, 0, .int .i64 ((i : Nat) : Int)), (9, 0, .slice ao q cap), (10, 0, .int .i64 ((q : Nat) : Int)), (11, 0, .bool (decide (((i : Nat) : Int) < ((q : Nat) : Int)))), (14, 0, .int .i64 ((i : Nat) : Int)), (15, 0, .string (decS ((i : Nat) : Int))), (16, 0, .string ((⟨#[99, 111, 109, 98, 105, 110, 101, 32]⟩) ++ (decS ((i : Nat) : Int)))), (7, 0, .int .i64 ((q_.1 : Nat) : Int)), (6, 0, .bool q_.2)]) (fun q_ => [Item.own w0.heap.size a n_ c 93 2 (cellsOf encNF (L))]) (fun q_ => q_.1 ≤ i) (fun q_ => i - q_.1) 1 ((0, false)) (Nat.zero_le _) ⟨rfl, rfl, rfl, rfl, rfl, rfl, rfl, rfl, rfl, rfl, rfl, rfl, rfl, rfl, rfl, rfl, rfl, rfl, rfl, rfl, rfl, rfl, rfl, rfl, rfl, rfl, rfl, rfl, trivial⟩ rfl ?_
    rintro ⟨k, tw⟩ hk
    try dsimp only at *
    refine WC.seq ?_
    refine WC.seq ?_
    refine WC.region ?_
    refine SL.pure rfl rfl rfl (PureOp.move rfl) ?_
    refine SL.pure rfl rfl rfl (PureOp.move rfl) ?_
    refine SL.pure rfl rfl rfl (PureOp.lss rfl rfl) ?_
    refine SL.nil_then ?_
    refine WC.cond rfl (fun h2 => ?_) (fun h2 => ?_)
    · try simp only [Bool.and_eq_true, Bool.or_eq_true, Bool.not_eq_true', Bool.not_eq_false', Bool.and_eq_false_iff, Bool.or_eq_false_iff, decide_eq_true_eq, decide_eq_false_iff_not, Int.not_lt, Int.not_le, ne_eq, Decidable.not_not] at h2
      refine WC.skip ?_
      refine QX.then_ ?_
      refine WC.seq ?_
      refine WC.block ?_
      refine WC.quiet rfl (by kernel_rfl) ?_
      refine SQ.pure rfl rfl rfl (PureOp.move rfl) ?_
      refine SQ.pure rfl rfl rfl (PureOp.move rfl) ?_
      refine SQ.newg 23 false rfl ?_
      refine SQ.gpure (c := 1) rfl rfl rfl rfl rfl rfl rfl (PureOp.move rfl) ?_
      refine SQ.gpure (c := 1) rfl rfl rfl rfl rfl rfl rfl (PureOp.move rfl) ?_
      refine SQ.gpure (c := 1) rfl rfl rfl rfl rfl rfl rfl (PureOp.indexAddrN Try.underlying73 sz3 rfl rfl (AoOk.in_ sI) (by intro hg; simp [gval] at hg; first | omega | exact at_max (by decide))) ?_
      refine SQ.gpure (c := 1) rfl rfl rfl rfl rfl rfl rfl (PureOp.load (v := .int .i64 (nth l k)) Try.underlying3 rfl rfl (by intro hg; simp [gval] at hg; exact (CellIs.in_ sI k 0 (by first | omega | exact at_max (by decide)) (by omega)))) ?_
      refine SQ.gpure (c := 1) rfl rfl rfl rfl rfl rfl rfl (PureOp.move rfl) ?_
      refine SQ.gpure (c := 1) rfl rfl rfl rfl rfl rfl rfl (PureOp.move rfl) ?_
      refine SQ.gpure (c := 1) rfl rfl rfl rfl rfl rfl rfl (PureOp.indexAddrN Try.underlying73 sz3 rfl rfl (AoOk.in_ sI) (by intro hg; simp [gval] at hg; first | omega | exact at_max (by decide))) ?_
      refine SQ.gpure (c := 1) rfl rfl rfl rfl rfl rfl rfl (PureOp.load (v := .int .i64 (nth l i)) Try.underlying3 rfl rfl (by intro hg; simp [gval] at hg; exact (CellIs.in_ sI i 0 (by first | omega | exact at_max (by decide)) (by omega)))) ?_
      refine SQ.gpure (c := 1) rfl rfl rfl rfl rfl rfl rfl (PureOp.eql rfl rfl) ?_
      refine SQ.pure rfl rfl rfl (PureOp.or_ rfl rfl rfl rfl) ?_
      refine SQ.pure rfl rfl rfl (PureOp.assign rfl) ?_
      refine SQ.nil ?_
      refine QX.normal_in ?_
      refine QX.then_ ?_
      refine WC.region ?_
      refine SL.pure rfl rfl rfl (PureOp.move rfl) ?_
      refine SL.pure rfl rfl rfl (PureOp.addN (k := 1) rfl rfl (fun _ => by first | omega | exact at_max (by decide))) ?_
      refine SL.pure rfl rfl rfl (PureOp.assign rfl) ?_
      refine SL.nil ?_
      refine QX.round (σ := Nat × Bool) (Ef := fun q_ => [(0, 0, .slice ao q cap), (2, 0, .slice none 0 0), (3, 0, .slice a n_ c), (4, 0, .int .i64 ((i : Nat) : Int)), (5, 0, .string ((⟨#[99, 111, 109, 98, 105, 110, 101, 32]⟩) ++ (decS ((i : Nat) : Int)))), (8, 0, .int .i64 ((i : Nat) : Int)), (9, 0, .slice ao q cap), (10, 0, .int .i64 ((q : Nat) : Int)), (11, 0, .bool (decide (((i : Nat) : Int) < ((q : Nat) : Int)))), (14, 0, .int .i64 ((i : Nat) : Int)), (15, 0, .string (decS ((i : Nat) : Int))), (16, 0, .string ((⟨#[99, 111, 109, 98, 105, 110, 101, 32]⟩) ++ (decS ((i : Nat) : Int)))), (7, 0, .int .i64 ((q_.1 : Nat) : Int)), (6, 0, .bool q_.2)]) (Hf := fun q_ => [Item.own w0.heap.size a n_ c 93 2 (cellsOf encNF (L))]) (I := fun q_ => q_.1 ≤ i) (μ := fun q_ => i - q_.1) (s := (k, tw)) 1 ((k + 1, tw || (decide (nth l k = nth l i)))) ⟨(by first | omega | (dsimp only; omega)), by first | omega | (dsimp only; omega)⟩ ⟨rfl, rfl, rfl, rfl, rfl, rfl, rfl, rfl, rfl, rfl, rfl, rfl, rfl, rfl, rfl, rfl, rfl, rfl, rfl, rfl, rfl, rfl, rfl, rfl, rfl, rfl, rfl, rfl, trivial⟩ rfl
    · try simp only [Bool.and_eq_true, Bool.or_eq_true, Bool.not_eq_true', Bool.not_eq_false', Bool.and_eq_false_iff, Bool.or_eq_false_iff, decide_eq_true_eq, decide_eq_false_iff_not, Int.not_lt, Int.not_le, ne_eq, Decidable.not_not] at h2
      refine WC.exit ?_
      refine QX.exit_then ?_
      refine QX.exit_then ?_
      refine QX.exit_hit ?_
      refine QX.then_ ?_
      refine WC.seq ?_
      refine WC.seq ?_
      refine WC.region ?_
      refine SL.pure rfl rfl rfl (PureOp.move rfl) ?_
      refine SL.pure rfl rfl rfl (PureOp.move rfl) ?_
      refine SL.pure rfl rfl rfl (PureOp.indexAddrN Try.underlying73 sz3 rfl rfl (AoOk.in_ sI) (fun _ => by first | omega | exact at_max (by decide))) ?_
      refine SL.pure rfl rfl rfl (PureOp.load (v := .int .i64 (nth l i)) Try.underlying3 rfl rfl (fun _ => (CellIs.in_ sI i 0 (by first | omega | exact at_max (by decide)) (by omega)))) ?_
      refine SL.pure rfl rfl rfl (PureOp.lss rfl rfl) ?_
      refine SL.pure rfl rfl rfl (PureOp.move rfl) ?_
      refine SL.newg 39 false rfl ?_
      refine SL.gpure (c := 1) rfl rfl rfl rfl rfl rfl rfl (PureOp.move rfl) ?_
      refine SL.gpure (c := 1) rfl rfl rfl rfl rfl rfl rfl (PureOp.move rfl) ?_
      refine SL.gpure (c := 1) rfl rfl rfl rfl rfl rfl rfl (PureOp.indexAddrN Try.underlying73 sz3 rfl rfl (AoOk.in_ sI) (by intro hg; simp [gval] at hg; first | omega | exact at_max (by decide))) ?_
      refine SL.gpure (c := 1) rfl rfl rfl rfl rfl rfl rfl (PureOp.load (v := .int .i64 (nth l i)) Try.underlying3 rfl rfl (by intro hg; simp [gval] at hg; exact (CellIs.in_ sI i 0 (by first | omega | exact at_max (by decide)) (by omega)))) ?_
      refine SL.gpure (c := 1) rfl rfl rfl rfl rfl rfl rfl (PureOp.gtr rfl rfl) ?_
      refine SL.pure rfl rfl rfl (PureOp.or_ rfl rfl rfl rfl) ?_
      refine SL.nil_then ?_
      refine WC.cond rfl (fun h3 => ?_) (fun h3 => ?_)
      · try simp only [Bool.and_eq_true, Bool.or_eq_true, Bool.not_eq_true', Bool.not_eq_false', Bool.and_eq_false_iff, Bool.or_eq_false_iff, decide_eq_true_eq, decide_eq_false_iff_not, Int.not_lt, Int.not_le, ne_eq, Decidable.not_not] at h3
        refine WC.region ?_
        refine SL.pure rfl rfl rfl (PureOp.move rfl) ?_
        refine SL.pure rfl rfl rfl (PureOp.move rfl) ?_
        refine SL.pure rfl rfl rfl (PureOp.build bld93 rfl rfl) ?_
        refine SL.buildSlice rfl rfl Try.underlying63 elem93 rfl rfl rfl rfl (fun b1 hb1 => ?_)
        refine SL.norm [_, _] rfl ?_
        refine SL.append 0 rfl rfl Try.underlying63 elem93 rfl rfl rfl rfl (SrcIs.own 1 rfl) (by rfl) (by first | omega | exact at_max (by decide)) (by first | omega | exact at_max (by decide)) (fun ao1_ cap1_ => ?_)
        refine SL.itemxs 0 rfl (show _ = cellsOf encNF (L ++ [((2 : Int), (((⟨#[99, 111, 109, 98, 105, 110, 101, 32]⟩) ++ (decS ((i : Nat) : Int))) : ByteArray))]) from by rw [cellsOf_append (l := L), cellsOf_one]; rfl) ?_
        refine SL.norm [_, _] rfl ?_
        refine SL.pure rfl rfl rfl (PureOp.assign rfl) ?_
        refine SL.nil_then ?_
        refine WC.seq ?_
        refine WC.region ?_
        refine SL.pure rfl rfl rfl (PureOp.move rfl) ?_
        refine SL.nil_then ?_
        refine WC.cond rfl (fun h4 => ?_) (fun h4 => ?_)
        · try simp only [Bool.and_eq_true, Bool.or_eq_true, Bool.not_eq_true', Bool.not_eq_false', Bool.and_eq_false_iff, Bool.or_eq_false_iff, decide_eq_true_eq, decide_eq_false_iff_not, Int.not_lt, Int.not_le, ne_eq, Decidable.not_not] at h4
          refine WC.region ?_
          refine SL.pure rfl rfl rfl (PureOp.move rfl) ?_
          refine SL.pure rfl rfl rfl (PureOp.move rfl) ?_
          refine SL.pure rfl rfl rfl (PureOp.build bld93 rfl rfl) ?_
          refine SL.buildSlice rfl rfl Try.underlying63 elem93 rfl rfl rfl rfl (fun b2 hb2 => ?_)
          refine SL.norm [_, _, _] rfl ?_
          refine SL.append 0 rfl rfl Try.underlying63 elem93 rfl rfl rfl rfl (SrcIs.own 2 rfl) (by rfl) (by first | omega | exact at_max (by decide)) (by first | omega | exact at_max (by decide)) (fun ao2_ cap2_ => ?_)
          refine SL.itemxs 0 rfl (show _ = cellsOf encNF ((L ++ [((2 : Int), (((⟨#[99, 111, 109, 98, 105, 110, 101, 32]⟩) ++ (decS ((i : Nat) : Int))) : ByteArray))]) ++ [((6 : Int), (((⟨#[99, 111, 109, 98, 105, 110, 101, 32]⟩) ++ (decS ((i : Nat) : Int))) : ByteArray))]) from by rw [cellsOf_append (l := (L ++ [((2 : Int), (((⟨#[99, 111, 109, 98, 105, 110, 101, 32]⟩) ++ (decS ((i : Nat) : Int))) : ByteArray))])), cellsOf_one]; rfl) ?_
          refine SL.norm [_, _, _] rfl ?_
          refine SL.pure rfl rfl rfl (PureOp.assign rfl) ?_
          refine SL.nil ?_
          refine QX.normal_in ?_
          refine QX.then_ ?_
          refine WC.region ?_
          refine SL.pure rfl rfl rfl (PureOp.move rfl) ?_
          refine SL.pure rfl rfl rfl (PureOp.addN (k := 1) rfl rfl (fun _ => by first | omega | exact at_max (by decide))) ?_
          refine SL.pure rfl rfl rfl (PureOp.assign rfl) ?_
          refine SL.nil ?_
          refine QX.round (σ := Nat × Option Addr × Nat × Nat × List NF) (Ef := fun q_ => [(0, 0, .slice ao q cap), (2, 0, .slice none 0 0), (4, 0, .int .i64 ((q_.1 : Nat) : Int)), (3, 0, .slice q_.2.1 q_.2.2.2.1 q_.2.2.1)]) (Hf := fun q_ => [Item.own w0.heap.size q_.2.1 q_.2.2.2.1 q_.2.2.1 93 2 (cellsOf encNF (q_.2.2.2.2))]) (I := fun q_ => q_.1 ≤ q ∧ FLs q_.2.2.2.2 q_.2.2.2.1 (2 * q_.1)) (μ := fun q_ => q - q_.1) (s := (i, a, c, n_, L)) 1 ((i + 1, ao2_, cap2_, (n_ + 1) + 1, (L ++ [((2 : Int), (((⟨#[99, 111, 109, 98, 105, 110, 101, 32]⟩) ++ (decS ((i : Nat) : Int))) : ByteArray))]) ++ [((6 : Int), (((⟨#[99, 111, 109, 98, 105, 110, 101, 32]⟩) ++ (decS ((i : Nat) : Int))) : ByteArray))])) ⟨⟨(by first | omega | (dsimp only; omega)), (by first | exact hF.mono (by omega) | exact (hF.snoc (by first | exact at_sz (by decide) | decide)).mono (by omega) | exact ((hF.snoc (by first | exact at_sz (by decide) | decide)).snoc (by first | exact at_sz (by decide) | decide)).mono (by omega) | exact (((hF.snoc (by first | exact at_sz (by decide) | decide)).snoc (by first | exact at_sz (by decide) | decide)).snoc (by first | exact at_sz (by decide) | decide)).mono (by omega))⟩, by first | omega | (dsimp only; omega)⟩ ⟨rfl, rfl, rfl, rfl, rfl, rfl, rfl, rfl, trivial⟩ rfl
        · try simp only [Bool.and_eq_true, Bool.or_eq_true, Bool.not_eq_true', Bool.not_eq_false', Bool.and_eq_false_iff, Bool.or_eq_false_iff, decide_eq_true_eq, decide_eq_false_iff_not, Int.not_lt, Int.not_le, ne_eq, Decidable.not_not] at h4
          refine WC.skip ?_
          refine QX.normal_in ?_
          refine QX.then_ ?_
          refine WC.region ?_
          refine SL.pure rfl rfl rfl (PureOp.move rfl) ?_
          refine SL.pure rfl rfl rfl (PureOp.addN (k := 1) rfl rfl (fun _ => by first | omega | exact at_max (by decide))) ?_
          refine SL.pure rfl rfl rfl (PureOp.assign rfl) ?_
          refine SL.nil ?_
          refine QX.round (σ := Nat × Option Addr × Nat × Nat × List NF) (Ef := fun q_ => [(0, 0, .slice ao q cap), (2, 0, .slice none 0 0), (4, 0, .int .i64 ((q_.1 : Nat) : Int)), (3, 0, .slice q_.2.1 q_.2.2.2.1 q_.2.2.1)]) (Hf := fun q_ => [Item.own w0.heap.size q_.2.1 q_.2.2.2.1 q_.2.2.1 93 2 (cellsOf encNF (q_.2.2.2.2))]) (I := fun q_ => q_.1 ≤ q ∧ FLs q_.2.2.2.2 q_.2.2.2.1 (2 * q_.1)) (μ := fun q_ => q - q_.1) (s := (i, a, c, n_, L)) 1 ((i + 1, ao1_, cap1_, n_ + 1, L ++ [((2 : Int), (((⟨#[99, 111, 109, 98, 105, 110, 101, 32]⟩) ++ (decS ((i : Nat) : Int))) : ByteArray))])) ⟨⟨(by first | omega | (dsimp only; omega)), (by first | exact hF.mono (by omega) | exact (hF.snoc (by first | exact at_sz (by decide) | decide)).mono (by omega) | exact ((hF.snoc (by first | exact at_sz (by decide) | decide)).snoc (by first | exact at_sz (by decide) | decide)).mono (by omega) | exact (((hF.snoc (by first | exact at_sz (by decide) | decide)).snoc (by first | exact at_sz (by decide) | decide)).snoc (by first | exact at_sz (by decide) | decide)).mono (by omega))⟩, by first | omega | (dsimp only; omega)⟩ ⟨rfl, rfl, rfl, rfl, rfl, rfl, rfl, rfl, trivial⟩ rfl
      · try simp only [Bool.and_eq_true, Bool.or_eq_true, Bool.not_eq_true', Bool.not_eq_false', Bool.and_eq_false_iff, Bool.or_eq_false_iff, decide_eq_true_eq, decide_eq_false_iff_not, Int.not_lt, Int.not_le, ne_eq, Decidable.not_not] at h3
        refine WC.skip ?_
        refine QX.then_ ?_
        refine WC.seq ?_
        refine WC.region ?_
        refine SL.pure rfl rfl rfl (PureOp.move rfl) ?_
        refine SL.nil_then ?_
        refine WC.cond rfl (fun h5 => ?_) (fun h5 => ?_)
        · try simp only [Bool.and_eq_true, Bool.or_eq_true, Bool.not_eq_true', Bool.not_eq_false', Bool.and_eq_false_iff, Bool.or_eq_false_iff, decide_eq_true_eq, decide_eq_false_iff_not, Int.not_lt, Int.not_le, ne_eq, Decidable.not_not] at h5
          refine WC.region ?_
          refine SL.pure rfl rfl rfl (PureOp.move rfl) ?_
          refine SL.pure rfl rfl rfl (PureOp.move rfl) ?_
          refine SL.pure rfl rfl rfl (PureOp.build bld93 rfl rfl) ?_
          refine SL.buildSlice rfl rfl Try.underlying63 elem93 rfl rfl rfl rfl (fun b3 hb3 => ?_)
          refine SL.norm [_, _] rfl ?_
          refine SL.append 0 rfl rfl Try.underlying63 elem93 rfl rfl rfl rfl (SrcIs.own 1 rfl) (by rfl) (by first | omega | exact at_max (by decide)) (by first | omega | exact at_max (by decide)) (fun ao3_ cap3_ => ?_)
          refine SL.itemxs 0 rfl (show _ = cellsOf encNF (L ++ [((6 : Int), (((⟨#[99, 111, 109, 98, 105, 110, 101, 32]⟩) ++ (decS ((i : Nat) : Int))) : ByteArray))]) from by rw [cellsOf_append (l := L), cellsOf_one]; rfl) ?_
          refine SL.norm [_, _] rfl ?_
          refine SL.pure rfl rfl rfl (PureOp.assign rfl) ?_
          refine SL.nil ?_
          refine QX.normal_in ?_
          refine QX.then_ ?_
          refine WC.region ?_
          refine SL.pure rfl rfl rfl (PureOp.move rfl) ?_
          refine SL.pure rfl rfl rfl (PureOp.addN (k := 1) rfl rfl (fun _ => by first | omega | exact at_max (by decide))) ?_
          refine SL.pure rfl rfl rfl (PureOp.assign rfl) ?_
          refine SL.nil ?_
          refine QX.round (σ := Nat × Option Addr × Nat × Nat × List NF) (Ef := fun q_ => [(0, 0, .slice ao q cap), (2, 0, .slice none 0 0), (4, 0, .int .i64 ((q_.1 : Nat) : Int)), (3, 0, .slice q_.2.1 q_.2.2.2.1 q_.2.2.1)]) (Hf := fun q_ => [Item.own w0.heap.size q_.2.1 q_.2.2.2.1 q_.2.2.1 93 2 (cellsOf encNF (q_.2.2.2.2))]) (I := fun q_ => q_.1 ≤ q ∧ FLs q_.2.2.2.2 q_.2.2.2.1 (2 * q_.1)) (μ := fun q_ => q - q_.1) (s := (i, a, c, n_, L)) 1 ((i + 1, ao3_, cap3_, n_ + 1, L ++ [((6 : Int), (((⟨#[99, 111, 109, 98, 105, 110, 101, 32]⟩) ++ (decS ((i : Nat) : Int))) : ByteArray))])) ⟨⟨(by first | omega | (dsimp only; omega)), (by first | exact hF.mono (by omega) | exact (hF.snoc (by first | exact at_sz (by decide) | decide)).mono (by omega) | exact ((hF.snoc (by first | exact at_sz (by decide) | decide)).snoc (by first | exact at_sz (by decide) | decide)).mono (by omega) | exact (((hF.snoc (by first | exact at_sz (by decide) | decide)).snoc (by first | exact at_sz (by decide) | decide)).snoc (by first | exact at_sz (by decide) | decide)).mono (by omega))⟩, by first | omega | (dsimp only; omega)⟩ ⟨rfl, rfl, rfl, rfl, rfl, rfl, rfl, rfl, trivial⟩ rfl
        · try simp only [Bool.and_eq_true, Bool.or_eq_true, Bool.not_eq_true', Bool.not_eq_false', Bool.and_eq_false_iff, Bool.or_eq_false_iff, decide_eq_true_eq, decide_eq_false_iff_not, Int.not_lt, Int.not_le, ne_eq, Decidable.not_not] at h5
          refine WC.skip ?_
          refine QX.normal_in ?_
          refine QX.then_ ?_
          refine WC.region ?_
          refine SL.pure rfl rfl rfl (PureOp.move rfl) ?_
          refine SL.pure rfl rfl rfl (PureOp.addN (k := 1) rfl rfl (fun _ => by first | omega | exact at_max (by decide))) ?_
          refine SL.pure rfl rfl rfl (PureOp.assign rfl) ?_
          refine SL.nil ?_
          refine QX.round (σ := Nat × Option Addr × Nat × Nat × List NF) (Ef := fun q_ => [(0, 0, .slice ao q cap), (2, 0, .slice none 0 0), (4, 0, .int .i64 ((q_.1 : Nat) : Int)), (3, 0, .slice q_.2.1 q_.2.2.2.1 q_.2.2.1)]) (Hf := fun q_ => [Item.own w0.heap.size q_.2.1 q_.2.2.2.1 q_.2.2.1 93 2 (cellsOf encNF (q_.2.2.2.2))]) (I := fun q_ => q_.1 ≤ q ∧ FLs q_.2.2.2.2 q_.2.2.2.1 (2 * q_.1)) (μ := fun q_ => q - q_.1) (s := (i, a, c, n_, L)) 1 ((i + 1, a, c, n_, L)) ⟨⟨(by first | omega | (dsimp only; omega)), (by first | exact hF.mono (by omega) | exact (hF.snoc (by first | exact at_sz (by decide) | decide)).mono (by omega) | exact ((hF.snoc (by first | exact at_sz (by decide) | decide)).snoc (by first | exact at_sz (by decide) | decide)).mono (by omega) | exact (((hF.snoc (by first | exact at_sz (by decide) | decide)).snoc (by first | exact at_sz (by decide) | decide)).snoc (by first | exact at_sz (by decide) | decide)).mono (by omega))⟩, by first | omega | (dsimp only; omega)⟩ ⟨rfl, rfl, rfl, rfl, rfl, rfl, rfl, rfl, trivial⟩ rfl
  · try simp only [Bool.and_eq_true, Bool.or_eq_true, Bool.not_eq_true', Bool.not_eq_false', Bool.and_eq_false_iff, Bool.or_eq_false_iff, decide_eq_true_eq, decide_eq_false_iff_not, Int.not_lt, Int.not_le, ne_eq, Decidable.not_not] at h1
    refine WC.exit ?_
    refine QX.exit_then ?_
    refine QX.exit_then ?_
    refine QX.exit_hit ?_
    refine QX.then_ ?_
    refine WC.seq ?_
    refine WC.region ?_
    refine SL.pure rfl rfl rfl (PureOp.move rfl) ?_
    refine SL.pure rfl rfl rfl (PureOp.assign rfl) ?_
    refine SL.nil_then ?_
    refine WC.ret ?_
    refine QX.ret1 rfl rfl ?_
    intro w hw
    exact ⟨a, c, n_, L, rfl, hF.mono (by omega), hw.mem (i := 0) rfl⟩

set_option maxHeartbeats 4000000 in
set_option maxRecDepth 100000 in
theorem percents_any (l : List (ByteArray × Int)) (ao : Option Addr) (q cap : Nat) (hq : q = l.length) (hM : q ≤ 1048576) (hls : ∀ y ∈ l, y.1.size ≤ maxLen) (w0 : World) (sI : SliceIn w0 2 ao q cap (rowsF enc137 l)) : FnC Try.prog 66 [.slice ao q cap] w0 fun v w' => ∃ a cp n L, v = .slice a n cp ∧ FLs L n (3 * q) ∧ w'.ownsRow w0.heap.size 93 2 (.slice a n cp) n (cellsOf encNF L) := by
  refine fnc (N := 74) Try.func66 rfl rfl rfl ?_
  refine WC.seq ?_
  refine WC.region ?_
  refine SL.pure rfl rfl rfl (PureOp.assign rfl) ?_
  refine SL.nil_then ?_
  refine WC.seq ?_
  refine WC.region ?_
  refine SL.addnil 93 2 ?_
  refine SL.pure rfl rfl rfl (PureOp.assign rfl) ?_
  refine SL.nil_then ?_
  refine WC.seq ?_
  refine WC.seq ?_
  refine WC.region ?_
  refine SL.pure rfl rfl rfl (PureOp.assign rfl) ?_
  refine SL.nil_then ?_
  refine WC.block ?_
  refine WC.loop (σ := Nat × Option Addr × Nat × Nat × List NF) (fun q_ => [(0, 0, .slice ao q cap), (2, 0, .slice none 0 0), (4, 0, .int .i64 ((q_.1 : Nat) : Int)), (3, 0, .slice q_.2.1 q_.2.2.2.1 q_.2.2.1)]) (fun q_ => [Item.own w0.heap.size q_.2.1 q_.2.2.2.1 q_.2.2.1 93 2 (cellsOf encNF (q_.2.2.2.2))]) (fun q_ => q_.1 ≤ q ∧ FLs q_.2.2.2.2 q_.2.2.2.1 (3 * q_.1)) (fun q_ => q - q_.1) 1 ((0, none, 0, 0, [])) (⟨Nat.zero_le _, FLs.nil⟩) ⟨rfl, rfl, rfl, rfl, rfl, rfl, rfl, rfl, trivial⟩ rfl ?_
  rintro ⟨i, a, c, n_, L⟩ ⟨hi, hF⟩
  try dsimp only at *
  have hFl := hF.ln.le
  refine WC.seq ?_
  refine WC.seq ?_
  refine WC.region ?_
  refine SL.pure rfl rfl rfl (PureOp.move rfl) ?_
  refine SL.pure rfl rfl rfl (PureOp.move rfl) ?_
  refine SL.pure rfl rfl rfl (PureOp.len rfl Try.underlying74) ?_
  refine SL.pure rfl rfl rfl (PureOp.lss rfl rfl) ?_
  refine SL.nil_then ?_
  refine WC.cond rfl (fun h1 => ?_) (fun h1 => ?_)
  · try simp only [Bool.and_eq_true, Bool.or_eq_true, Bool.not_eq_true', Bool.not_eq_false', Bool.and_eq_false_iff, Bool.or_eq_false_iff, decide_eq_true_eq, decide_eq_false_iff_not, Int.not_lt, Int.not_le, ne_eq, Decidable.not_not] at h1
    refine WC.skip ?_
    refine QX.then_ ?_
    refine WC.seq ?_
    refine WC.block ?_
    refine WC.seq ?_
    refine WC.region ?_
    refine SL.pure rfl rfl rfl (PureOp.move rfl) ?_
    refine SL.calle rfl rfl rfl rfl rfl rfl callable37 (fun w hw => decimal_ok ((i : Nat) : Int) (by omega) w) ?_
    refine SL.norm [_] rfl ?_
    refine SL.pure rfl rfl rfl (PureOp.adds rfl rfl (fun _ => by first | omega | exact at_max (by decide))) ?_
    refine SL.pure rfl rfl rfl (PureOp.assign rfl) ?_
    refine SL.pure rfl rfl rfl (PureOp.assign rfl) ?_
    refine SL.nil_then ?_
    refine WC.seq ?_
    refine WC.seq ?_
    refine WC.region ?_
    refine SL.pure rfl rfl rfl (PureOp.assign rfl) ?_
    refine SL.nil_then ?_
    refine WC.block ?_
    refine WC.loop (σ := Nat × Bool) (fun q_ => [(0, 0, .slice ao q cap), (2, 0, .slice none 0 0), (3, 0, .slice a n_ c), (4, 0, .int .i64 ((i : Nat) : Int)), (5, 0, .string ((⟨#[112, 101, 114, 99, 101, 110, 116, 32]⟩) ++ (decS ((i : Nat) : Int)))), (8, 0, .int .i64 ((i : Nat) : Int)), (9, 0, .slice ao q cap), (10, 0, .int .i64 ((q : Nat) : Int)), (11, 0, .bool (decide (((i : Nat) : Int) < ((q : Nat) : Int)))), (14, 0, .int .i64 ((i : Nat) : Int)), (15, 0, .string (decS ((i : Nat) : Int))), (16, 0, .string ((⟨#[112, 101, 114, 99, 101, 110, 116, 32]⟩) ++ (decS ((i : Nat) : Int)))), (7, 0, .int .i64 ((q_.1 : Nat) : Int)), (6, 0, .bool q_.2)]) (fun q_ => [Item.own w0.heap.size a n_ c 93 2 (cellsOf encNF (L))]) (fun q_ => q_.1 ≤ i) (fun q_ => i - q_.1) 1 ((0, false)) (Nat.zero_le _) ⟨rfl, rfl, rfl, rfl, rfl, rfl, rfl, rfl, rfl, rfl, rfl, rfl, rfl, rfl, rfl, rfl, rfl, rfl, rfl, rfl, rfl, rfl, rfl, rfl, rfl, rfl, rfl, rfl, trivial⟩ rfl ?_
    rintro ⟨k, tw⟩ hk
    try dsimp only at *
    refine WC.seq ?_
    refine WC.seq ?_
    refine WC.region ?_
    refine SL.pure rfl rfl rfl (PureOp.move rfl) ?_
    refine SL.pure rfl rfl rfl (PureOp.move rfl) ?_
    refine SL.pure rfl rfl rfl (PureOp.lss rfl rfl) ?_
    refine SL.nil_then ?_
    refine WC.cond rfl (fun h2 => ?_) (fun h2 => ?_)
    · try simp only [Bool.and_eq_true, Bool.or_eq_true, Bool.not_eq_true', Bool.not_eq_false', Bool.and_eq_false_iff, Bool.or_eq_false_iff, decide_eq_true_eq, decide_eq_false_iff_not, Int.not_lt, Int.not_le, ne_eq, Decidable.not_not] at h2
      refine WC.skip ?_
      refine QX.then_ ?_
      refine WC.seq ?_
      refine WC.block ?_
      refine WC.quiet rfl (by kernel_rfl) ?_
      refine SQ.pure rfl rfl rfl (PureOp.move rfl) ?_
      refine SQ.pure rfl rfl rfl (PureOp.move rfl) ?_
      refine SQ.newg 23 false rfl ?_
      refine SQ.gpure (c := 1) rfl rfl rfl rfl rfl rfl rfl (PureOp.move rfl) ?_
      refine SQ.gpure (c := 1) rfl rfl rfl rfl rfl rfl rfl (PureOp.move rfl) ?_
      refine SQ.gpure (c := 1) rfl rfl rfl rfl rfl rfl rfl (PureOp.indexAddrN Try.underlying74 sz137 rfl rfl (AoOk.in_ sI) (by intro hg; simp [gval] at hg; first | omega | exact at_max (by decide))) ?_
      refine SQ.gpure (c := 1) rfl rfl rfl rfl rfl rfl rfl (PureOp.fieldAddr 0 Try.underlying137 rfl rfl sz9 rfl) ?_
      refine SQ.gpure (c := 1) rfl rfl rfl rfl rfl rfl rfl (PureOp.load (v := .string ((nth l k).1)) Try.underlying9 rfl rfl (by intro hg; simp [gval] at hg; exact (CellIs.in_ sI k 0 (by first | omega | exact at_max (by decide)) (by omega)))) ?_
      refine SQ.gpure (c := 1) rfl rfl rfl rfl rfl rfl rfl (PureOp.move rfl) ?_
      refine SQ.gpure (c := 1) rfl rfl rfl rfl rfl rfl rfl (PureOp.move rfl) ?_
      refine SQ.gpure (c := 1) rfl rfl rfl rfl rfl rfl rfl (PureOp.indexAddrN Try.underlying74 sz137 rfl rfl (AoOk.in_ sI) (by intro hg; simp [gval] at hg; first | omega | exact at_max (by decide))) ?_
      refine SQ.gpure (c := 1) rfl rfl rfl rfl rfl rfl rfl (PureOp.fieldAddr 0 Try.underlying137 rfl rfl sz9 rfl) ?_
      refine SQ.gpure (c := 1) rfl rfl rfl rfl rfl rfl rfl (PureOp.load (v := .string ((nth l i).1)) Try.underlying9 rfl rfl (by intro hg; simp [gval] at hg; exact (CellIs.in_ sI i 0 (by first | omega | exact at_max (by decide)) (by omega)))) ?_
      refine SQ.gpure (c := 1) rfl rfl rfl rfl rfl rfl rfl (PureOp.eqls rfl rfl) ?_
      refine SQ.pure rfl rfl rfl (PureOp.or_ rfl rfl rfl rfl) ?_
      refine SQ.pure rfl rfl rfl (PureOp.assign rfl) ?_
      refine SQ.nil ?_
      refine QX.normal_in ?_
      refine QX.then_ ?_
      refine WC.region ?_
      refine SL.pure rfl rfl rfl (PureOp.move rfl) ?_
      refine SL.pure rfl rfl rfl (PureOp.addN (k := 1) rfl rfl (fun _ => by first | omega | exact at_max (by decide))) ?_
      refine SL.pure rfl rfl rfl (PureOp.assign rfl) ?_
      refine SL.nil ?_
      refine QX.round (σ := Nat × Bool) (Ef := fun q_ => [(0, 0, .slice ao q cap), (2, 0, .slice none 0 0), (3, 0, .slice a n_ c), (4, 0, .int .i64 ((i : Nat) : Int)), (5, 0, .string ((⟨#[112, 101, 114, 99, 101, 110, 116, 32]⟩) ++ (decS ((i : Nat) : Int)))), (8, 0, .int .i64 ((i : Nat) : Int)), (9, 0, .slice ao q cap), (10, 0, .int .i64 ((q : Nat) : Int)), (11, 0, .bool (decide (((i : Nat) : Int) < ((q : Nat) : Int)))), (14, 0, .int .i64 ((i : Nat) : Int)), (15, 0, .string (decS ((i : Nat) : Int))), (16, 0, .string ((⟨#[112, 101, 114, 99, 101, 110, 116, 32]⟩) ++ (decS ((i : Nat) : Int)))), (7, 0, .int .i64 ((q_.1 : Nat) : Int)), (6, 0, .bool q_.2)]) (Hf := fun q_ => [Item.own w0.heap.size a n_ c 93 2 (cellsOf encNF (L))]) (I := fun q_ => q_.1 ≤ i) (μ := fun q_ => i - q_.1) (s := (k, tw)) 1 ((k + 1, tw || (((nth l k).1).toList == ((nth l i).1).toList))) ⟨(by first | omega | (dsimp only; omega)), by first | omega | (dsimp only; omega)⟩ ⟨rfl, rfl, rfl, rfl, rfl, rfl, rfl, rfl, rfl, rfl, rfl, rfl, rfl, rfl, rfl, rfl, rfl, rfl, rfl, rfl, rfl, rfl, rfl, rfl, rfl, rfl, rfl, rfl, trivial⟩ rfl
    · try simp only [Bool.and_eq_true, Bool.or_eq_true, Bool.not_eq_true', Bool.not_eq_false', Bool.and_eq_false_iff, Bool.or_eq_false_iff, decide_eq_true_eq, decide_eq_false_iff_not, Int.not_lt, Int.not_le, ne_eq, Decidable.not_not] at h2
      refine WC.exit ?_
      refine QX.exit_then ?_
      refine QX.exit_then ?_
      refine QX.exit_hit ?_
      refine QX.then_ ?_
      refine WC.seq ?_
      refine WC.seq ?_
      refine WC.region ?_
      refine SL.pure rfl rfl rfl (PureOp.move rfl) ?_
      refine SL.pure rfl rfl rfl (PureOp.move rfl) ?_
      refine SL.pure rfl rfl rfl (PureOp.indexAddrN Try.underlying74 sz137 rfl rfl (AoOk.in_ sI) (fun _ => by first | omega | exact at_max (by decide))) ?_
      refine SL.pure rfl rfl rfl (PureOp.fieldAddr 0 Try.underlying137 rfl rfl sz9 rfl) ?_
      refine SL.pure rfl rfl rfl (PureOp.load (v := .string ((nth l i).1)) Try.underlying9 rfl rfl (fun _ => (CellIs.in_ sI i 0 (by first | omega | exact at_max (by decide)) (by omega)))) ?_
      refine SL.calle rfl rfl rfl rfl rfl rfl callable60 (fun w hw => code_ok (nth l i).1 (by have q1 := hls _ (nth_mem (l := l) (i := i) (by omega)); simp only [maxLen] at q1; omega) 3 3 w) ?_
      refine SL.norm [_] rfl ?_
      refine SL.pure rfl rfl rfl (PureOp.not rfl) ?_
      refine SL.nil_then ?_
      refine WC.cond rfl (fun h3 => ?_) (fun h3 => ?_)
      · try simp only [Bool.and_eq_true, Bool.or_eq_true, Bool.not_eq_true', Bool.not_eq_false', Bool.and_eq_false_iff, Bool.or_eq_false_iff, decide_eq_true_eq, decide_eq_false_iff_not, Int.not_lt, Int.not_le, ne_eq, Decidable.not_not] at h3
        refine WC.region ?_
        refine SL.pure rfl rfl rfl (PureOp.move rfl) ?_
        refine SL.pure rfl rfl rfl (PureOp.move rfl) ?_
        refine SL.pure rfl rfl rfl (PureOp.build bld93 rfl rfl) ?_
        refine SL.buildSlice rfl rfl Try.underlying63 elem93 rfl rfl rfl rfl (fun b1 hb1 => ?_)
        refine SL.norm [_, _] rfl ?_
        refine SL.append 0 rfl rfl Try.underlying63 elem93 rfl rfl rfl rfl (SrcIs.own 1 rfl) (by rfl) (by first | omega | exact at_max (by decide)) (by first | omega | exact at_max (by decide)) (fun ao1_ cap1_ => ?_)
        refine SL.itemxs 0 rfl (show _ = cellsOf encNF (L ++ [((5 : Int), (((⟨#[112, 101, 114, 99, 101, 110, 116, 32]⟩) ++ (decS ((i : Nat) : Int))) : ByteArray))]) from by rw [cellsOf_append (l := L), cellsOf_one]; rfl) ?_
        refine SL.norm [_, _] rfl ?_
        refine SL.pure rfl rfl rfl (PureOp.assign rfl) ?_
        refine SL.nil_then ?_
        refine WC.seq ?_
        refine WC.seq ?_
        refine WC.region ?_
        refine SL.pure rfl rfl rfl (PureOp.move rfl) ?_
        refine SL.nil_then ?_
        refine WC.cond rfl (fun h4 => ?_) (fun h4 => ?_)
        · try simp only [Bool.and_eq_true, Bool.or_eq_true, Bool.not_eq_true', Bool.not_eq_false', Bool.and_eq_false_iff, Bool.or_eq_false_iff, decide_eq_true_eq, decide_eq_false_iff_not, Int.not_lt, Int.not_le, ne_eq, Decidable.not_not] at h4
          refine WC.region ?_
          refine SL.pure rfl rfl rfl (PureOp.move rfl) ?_
          refine SL.pure rfl rfl rfl (PureOp.move rfl) ?_
          refine SL.pure rfl rfl rfl (PureOp.build bld93 rfl rfl) ?_
          refine SL.buildSlice rfl rfl Try.underlying63 elem93 rfl rfl rfl rfl (fun b2 hb2 => ?_)
          refine SL.norm [_, _, _] rfl ?_
          refine SL.append 0 rfl rfl Try.underlying63 elem93 rfl rfl rfl rfl (SrcIs.own 2 rfl) (by rfl) (by first | omega | exact at_max (by decide)) (by first | omega | exact at_max (by decide)) (fun ao2_ cap2_ => ?_)
          refine SL.itemxs 0 rfl (show _ = cellsOf encNF ((L ++ [((5 : Int), (((⟨#[112, 101, 114, 99, 101, 110, 116, 32]⟩) ++ (decS ((i : Nat) : Int))) : ByteArray))]) ++ [((6 : Int), (((⟨#[112, 101, 114, 99, 101, 110, 116, 32]⟩) ++ (decS ((i : Nat) : Int))) : ByteArray))]) from by rw [cellsOf_append (l := (L ++ [((5 : Int), (((⟨#[112, 101, 114, 99, 101, 110, 116, 32]⟩) ++ (decS ((i : Nat) : Int))) : ByteArray))])), cellsOf_one]; rfl) ?_
          refine SL.norm [_, _, _] rfl ?_
          refine SL.pure rfl rfl rfl (PureOp.assign rfl) ?_
          refine SL.nil_then ?_
          refine WC.seq ?_
          refine WC.region ?_
          refine SL.pure rfl rfl rfl (PureOp.move rfl) ?_
          refine SL.pure rfl rfl rfl (PureOp.move rfl) ?_
          refine SL.pure rfl rfl rfl (PureOp.indexAddrN Try.underlying74 sz137 rfl rfl (AoOk.in_ sI) (fun _ => by first | omega | exact at_max (by decide))) ?_
          refine SL.pure rfl rfl rfl (PureOp.fieldAddr 1 Try.underlying137 rfl rfl sz3 rfl) ?_
          refine SL.pure rfl rfl rfl (PureOp.load (v := .int .i64 ((nth l i).2)) Try.underlying3 rfl rfl (fun _ => (CellIs.in_ sI i 1 (by first | omega | exact at_max (by decide)) (by omega)))) ?_
          refine SL.pure rfl rfl rfl (PureOp.lss rfl rfl) ?_
          refine SL.pure rfl rfl rfl (PureOp.move rfl) ?_
          refine SL.newg 60 false rfl ?_
          refine SL.gpure (c := 1) rfl rfl rfl rfl rfl rfl rfl (PureOp.move rfl) ?_
          refine SL.gpure (c := 1) rfl rfl rfl rfl rfl rfl rfl (PureOp.move rfl) ?_
          refine SL.gpure (c := 1) rfl rfl rfl rfl rfl rfl rfl (PureOp.indexAddrN Try.underlying74 sz137 rfl rfl (AoOk.in_ sI) (by intro hg; simp [gval] at hg; first | omega | exact at_max (by decide))) ?_
          refine SL.gpure (c := 1) rfl rfl rfl rfl rfl rfl rfl (PureOp.fieldAddr 1 Try.underlying137 rfl rfl sz3 rfl) ?_
          refine SL.gpure (c := 1) rfl rfl rfl rfl rfl rfl rfl (PureOp.load (v := .int .i64 ((nth l i).2)) Try.underlying3 rfl rfl (by intro hg; simp [gval] at hg; exact (CellIs.in_ sI i 1 (by first | omega | exact at_max (by decide)) (by omega)))) ?_
          refine SL.gpure (c := 1) rfl rfl rfl rfl rfl rfl rfl (PureOp.gtr rfl rfl) ?_
          refine SL.pure rfl rfl rfl (PureOp.or_ rfl rfl rfl rfl) ?_
          refine SL.nil_then ?_
          refine WC.cond rfl (fun h5 => ?_) (fun h5 => ?_)
          · try simp only [Bool.and_eq_true, Bool.or_eq_true, Bool.not_eq_true', Bool.not_eq_false', Bool.and_eq_false_iff, Bool.or_eq_false_iff, decide_eq_true_eq, decide_eq_false_iff_not, Int.not_lt, Int.not_le, ne_eq, Decidable.not_not] at h5
            refine WC.region ?_
            refine SL.pure rfl rfl rfl (PureOp.move rfl) ?_
            refine SL.pure rfl rfl rfl (PureOp.move rfl) ?_
            refine SL.pure rfl rfl rfl (PureOp.build bld93 rfl rfl) ?_
            refine SL.buildSlice rfl rfl Try.underlying63 elem93 rfl rfl rfl rfl (fun b3 hb3 => ?_)
            refine SL.norm [_, _, _, _] rfl ?_
            refine SL.append 0 rfl rfl Try.underlying63 elem93 rfl rfl rfl rfl (SrcIs.own 3 rfl) (by rfl) (by first | omega | exact at_max (by decide)) (by first | omega | exact at_max (by decide)) (fun ao3_ cap3_ => ?_)
            refine SL.itemxs 0 rfl (show _ = cellsOf encNF (((L ++ [((5 : Int), (((⟨#[112, 101, 114, 99, 101, 110, 116, 32]⟩) ++ (decS ((i : Nat) : Int))) : ByteArray))]) ++ [((6 : Int), (((⟨#[112, 101, 114, 99, 101, 110, 116, 32]⟩) ++ (decS ((i : Nat) : Int))) : ByteArray))]) ++ [((2 : Int), (((⟨#[112, 101, 114, 99, 101, 110, 116, 32]⟩) ++ (decS ((i : Nat) : Int))) : ByteArray))]) from by rw [cellsOf_append (l := ((L ++ [((5 : Int), (((⟨#[112, 101, 114, 99, 101, 110, 116, 32]⟩) ++ (decS ((i : Nat) : Int))) : ByteArray))]) ++ [((6 : Int), (((⟨#[112, 101, 114, 99, 101, 110, 116, 32]⟩) ++ (decS ((i : Nat) : Int))) : ByteArray))])), cellsOf_one]; rfl) ?_
            refine SL.norm [_, _, _, _] rfl ?_
            refine SL.pure rfl rfl rfl (PureOp.assign rfl) ?_
            refine SL.nil ?_
            refine QX.normal_in ?_
            refine QX.then_ ?_
            refine WC.region ?_
            refine SL.pure rfl rfl rfl (PureOp.move rfl) ?_
            refine SL.pure rfl rfl rfl (PureOp.addN (k := 1) rfl rfl (fun _ => by first | omega | exact at_max (by decide))) ?_
            refine SL.pure rfl rfl rfl (PureOp.assign rfl) ?_
            refine SL.nil ?_
            refine QX.round (σ := Nat × Option Addr × Nat × Nat × List NF) (Ef := fun q_ => [(0, 0, .slice ao q cap), (2, 0, .slice none 0 0), (4, 0, .int .i64 ((q_.1 : Nat) : Int)), (3, 0, .slice q_.2.1 q_.2.2.2.1 q_.2.2.1)]) (Hf := fun q_ => [Item.own w0.heap.size q_.2.1 q_.2.2.2.1 q_.2.2.1 93 2 (cellsOf encNF (q_.2.2.2.2))]) (I := fun q_ => q_.1 ≤ q ∧ FLs q_.2.2.2.2 q_.2.2.2.1 (3 * q_.1)) (μ := fun q_ => q - q_.1) (s := (i, a, c, n_, L)) 1 ((i + 1, ao3_, cap3_, ((n_ + 1) + 1) + 1, ((L ++ [((5 : Int), (((⟨#[112, 101, 114, 99, 101, 110, 116, 32]⟩) ++ (decS ((i : Nat) : Int))) : ByteArray))]) ++ [((6 : Int), (((⟨#[112, 101, 114, 99, 101, 110, 116, 32]⟩) ++ (decS ((i : Nat) : Int))) : ByteArray))]) ++ [((2 : Int), (((⟨#[112, 101, 114, 99, 101, 110, 116, 32]⟩) ++ (decS ((i : Nat) : Int))) : ByteArray))])) ⟨⟨(by first | omega | (dsimp only; omega)), (by first | exact hF.mono (by omega) | exact (hF.snoc (by first | exact at_sz (by decide) | decide)).mono (by omega) | exact ((hF.snoc (by first | exact at_sz (by decide) | decide)).snoc (by first | exact at_sz (by decide) | decide)).mono (by omega) | exact (((hF.snoc (by first | exact at_sz (by decide) | decide)).snoc (by first | exact at_sz (by decide) | decide)).snoc (by first | exact at_sz (by decide) | decide)).mono (by omega))⟩, by first | omega | (dsimp only; omega)⟩ ⟨rfl, rfl, rfl, rfl, rfl, rfl, rfl, rfl, trivial⟩ rfl
          · try simp only [Bool.and_eq_true, Bool.or_eq_true, Bool.not_eq_true', Bool.not_eq_false', Bool.and_eq_false_iff, Bool.or_eq_false_iff, decide_eq_true_eq, decide_eq_false_iff_not, Int.not_lt, Int.not_le, ne_eq, Decidable.not_not] at h5
            refine WC.skip ?_
            refine QX.normal_in ?_
            refine QX.then_ ?_
            refine WC.region ?_
            refine SL.pure rfl rfl rfl (PureOp.move rfl) ?_
            refine SL.pure rfl rfl rfl (PureOp.addN (k := 1) rfl rfl (fun _ => by first | omega | exact at_max (by decide))) ?_
            refine SL.pure rfl rfl rfl (PureOp.assign rfl) ?_
            refine SL.nil ?_
            refine QX.round (σ := Nat × Option Addr × Nat × Nat × List NF) (Ef := fun q_ => [(0, 0, .slice ao q cap), (2, 0, .slice none 0 0), (4, 0, .int .i64 ((q_.1 : Nat) : Int)), (3, 0, .slice q_.2.1 q_.2.2.2.1 q_.2.2.1)]) (Hf := fun q_ => [Item.own w0.heap.size q_.2.1 q_.2.2.2.1 q_.2.2.1 93 2 (cellsOf encNF (q_.2.2.2.2))]) (I := fun q_ => q_.1 ≤ q ∧ FLs q_.2.2.2.2 q_.2.2.2.1 (3 * q_.1)) (μ := fun q_ => q - q_.1) (s := (i, a, c, n_, L)) 1 ((i + 1, ao2_, cap2_, (n_ + 1) + 1, (L ++ [((5 : Int), (((⟨#[112, 101, 114, 99, 101, 110, 116, 32]⟩) ++ (decS ((i : Nat) : Int))) : ByteArray))]) ++ [((6 : Int), (((⟨#[112, 101, 114, 99, 101, 110, 116, 32]⟩) ++ (decS ((i : Nat) : Int))) : ByteArray))])) ⟨⟨(by first | omega | (dsimp only; omega)), (by first | exact hF.mono (by omega) | exact (hF.snoc (by first | exact at_sz (by decide) | decide)).mono (by omega) | exact ((hF.snoc (by first | exact at_sz (by decide) | decide)).snoc (by first | exact at_sz (by decide) | decide)).mono (by omega) | exact (((hF.snoc (by first | exact at_sz (by decide) | decide)).snoc (by first | exact at_sz (by decide) | decide)).snoc (by first | exact at_sz (by decide) | decide)).mono (by omega))⟩, by first | omega | (dsimp only; omega)⟩ ⟨rfl, rfl, rfl, rfl, rfl, rfl, rfl, rfl, trivial⟩ rfl
        · try simp only [Bool.and_eq_true, Bool.or_eq_true, Bool.not_eq_true', Bool.not_eq_false', Bool.and_eq_false_iff, Bool.or_eq_false_iff, decide_eq_true_eq, decide_eq_false_iff_not, Int.not_lt, Int.not_le, ne_eq, Decidable.not_not] at h4
          refine WC.skip ?_
          refine QX.then_ ?_
          refine WC.seq ?_
          refine WC.region ?_
          refine SL.pure rfl rfl rfl (PureOp.move rfl) ?_
          refine SL.pure rfl rfl rfl (PureOp.move rfl) ?_
          refine SL.pure rfl rfl rfl (PureOp.indexAddrN Try.underlying74 sz137 rfl rfl (AoOk.in_ sI) (fun _ => by first | omega | exact at_max (by decide))) ?_
          refine SL.pure rfl rfl rfl (PureOp.fieldAddr 1 Try.underlying137 rfl rfl sz3 rfl) ?_
          refine SL.pure rfl rfl rfl (PureOp.load (v := .int .i64 ((nth l i).2)) Try.underlying3 rfl rfl (fun _ => (CellIs.in_ sI i 1 (by first | omega | exact at_max (by decide)) (by omega)))) ?_
          refine SL.pure rfl rfl rfl (PureOp.lss rfl rfl) ?_
          refine SL.pure rfl rfl rfl (PureOp.move rfl) ?_
          refine SL.newg 60 false rfl ?_
          refine SL.gpure (c := 1) rfl rfl rfl rfl rfl rfl rfl (PureOp.move rfl) ?_
          refine SL.gpure (c := 1) rfl rfl rfl rfl rfl rfl rfl (PureOp.move rfl) ?_
          refine SL.gpure (c := 1) rfl rfl rfl rfl rfl rfl rfl (PureOp.indexAddrN Try.underlying74 sz137 rfl rfl (AoOk.in_ sI) (by intro hg; simp [gval] at hg; first | omega | exact at_max (by decide))) ?_
          refine SL.gpure (c := 1) rfl rfl rfl rfl rfl rfl rfl (PureOp.fieldAddr 1 Try.underlying137 rfl rfl sz3 rfl) ?_
          refine SL.gpure (c := 1) rfl rfl rfl rfl rfl rfl rfl (PureOp.load (v := .int .i64 ((nth l i).2)) Try.underlying3 rfl rfl (by intro hg; simp [gval] at hg; exact (CellIs.in_ sI i 1 (by first | omega | exact at_max (by decide)) (by omega)))) ?_
          refine SL.gpure (c := 1) rfl rfl rfl rfl rfl rfl rfl (PureOp.gtr rfl rfl) ?_
          refine SL.pure rfl rfl rfl (PureOp.or_ rfl rfl rfl rfl) ?_
          refine SL.nil_then ?_
          refine WC.cond rfl (fun h6 => ?_) (fun h6 => ?_)
          · try simp only [Bool.and_eq_true, Bool.or_eq_true, Bool.not_eq_true', Bool.not_eq_false', Bool.and_eq_false_iff, Bool.or_eq_false_iff, decide_eq_true_eq, decide_eq_false_iff_not, Int.not_lt, Int.not_le, ne_eq, Decidable.not_not] at h6
            refine WC.region ?_
            refine SL.pure rfl rfl rfl (PureOp.move rfl) ?_
            refine SL.pure rfl rfl rfl (PureOp.move rfl) ?_
            refine SL.pure rfl rfl rfl (PureOp.build bld93 rfl rfl) ?_
            refine SL.buildSlice rfl rfl Try.underlying63 elem93 rfl rfl rfl rfl (fun b4 hb4 => ?_)
            refine SL.norm [_, _, _] rfl ?_
            refine SL.append 0 rfl rfl Try.underlying63 elem93 rfl rfl rfl rfl (SrcIs.own 2 rfl) (by rfl) (by first | omega | exact at_max (by decide)) (by first | omega | exact at_max (by decide)) (fun ao4_ cap4_ => ?_)
            refine SL.itemxs 0 rfl (show _ = cellsOf encNF ((L ++ [((5 : Int), (((⟨#[112, 101, 114, 99, 101, 110, 116, 32]⟩) ++ (decS ((i : Nat) : Int))) : ByteArray))]) ++ [((2 : Int), (((⟨#[112, 101, 114, 99, 101, 110, 116, 32]⟩) ++ (decS ((i : Nat) : Int))) : ByteArray))]) from by rw [cellsOf_append (l := (L ++ [((5 : Int), (((⟨#[112, 101, 114, 99, 101, 110, 116, 32]⟩) ++ (decS ((i : Nat) : Int))) : ByteArray))])), cellsOf_one]; rfl) ?_
            refine SL.norm [_, _, _] rfl ?_
            refine SL.pure rfl rfl rfl (PureOp.assign rfl) ?_
            refine SL.nil ?_
            refine QX.normal_in ?_
            refine QX.then_ ?_
            refine WC.region ?_
            refine SL.pure rfl rfl rfl (PureOp.move rfl) ?_
            refine SL.pure rfl rfl rfl (PureOp.addN (k := 1) rfl rfl (fun _ => by first | omega | exact at_max (by decide))) ?_
            refine SL.pure rfl rfl rfl (PureOp.assign rfl) ?_
            refine SL.nil ?_
            refine QX.round (σ := Nat × Option Addr × Nat × Nat × List NF) (Ef := fun q_ => [(0, 0, .slice ao q cap), (2, 0, .slice none 0 0), (4, 0, .int .i64 ((q_.1 : Nat) : Int)), (3, 0, .slice q_.2.1 q_.2.2.2.1 q_.2.2.1)]) (Hf := fun q_ => [Item.own w0.heap.size q_.2.1 q_.2.2.2.1 q_.2.2.1 93 2 (cellsOf encNF (q_.2.2.2.2))]) (I := fun q_ => q_.1 ≤ q ∧ FLs q_.2.2.2.2 q_.2.2.2.1 (3 * q_.1)) (μ := fun q_ => q - q_.1) (s := (i, a, c, n_, L)) 1 ((i + 1, ao4_, cap4_, (n_ + 1) + 1, (L ++ [((5 : Int), (((⟨#[112, 101, 114, 99, 101, 110, 116, 32]⟩) ++ (decS ((i : Nat) : Int))) : ByteArray))]) ++ [((2 : Int), (((⟨#[112, 101, 114, 99, 101, 110, 116, 32]⟩) ++ (decS ((i : Nat) : Int))) : ByteArray))])) ⟨⟨(by first | omega | (dsimp only; omega)), (by first | exact hF.mono (by omega) | exact (hF.snoc (by first | exact at_sz (by decide) | decide)).mono (by omega) | exact ((hF.snoc (by first | exact at_sz (by decide) | decide)).snoc (by first | exact at_sz (by decide) | decide)).mono (by omega) | exact (((hF.snoc (by first | exact at_sz (by decide) | decide)).snoc (by first | exact at_sz (by decide) | decide)).snoc (by first | exact at_sz (by decide) | decide)).mono (by omega))⟩, by first | omega | (dsimp only; omega)⟩ ⟨rfl, rfl, rfl, rfl, rfl, rfl, rfl, rfl, trivial⟩ rfl
          · try simp only [Bool.and_eq_true, Bool.or_eq_true, Bool.not_eq_true', Bool.not_eq_false', Bool.and_eq_false_iff, Bool.or_eq_false_iff, decide_eq_true_eq, decide_eq_false_iff_not, Int.not_lt, Int.not_le, ne_eq, Decidable.not_not] at h6
            refine WC.skip ?_
            refine QX.normal_in ?_
            refine QX.then_ ?_
            refine WC.region ?_
            refine SL.pure rfl rfl rfl (PureOp.move rfl) ?_
            refine SL.pure rfl rfl rfl (PureOp.addN (k := 1) rfl rfl (fun _ => by first | omega | exact at_max (by decide))) ?_
            refine SL.pure rfl rfl rfl (PureOp.assign rfl) ?_
            refine SL.nil ?_
            refine QX.round (σ := Nat × Option Addr × Nat × Nat × List NF) (Ef := fun q_ => [(0, 0, .slice ao q cap), (2, 0, .slice none 0 0), (4, 0, .int .i64 ((q_.1 : Nat) : Int)), (3, 0, .slice q_.2.1 q_.2.2.2.1 q_.2.2.1)]) (Hf := fun q_ => [Item.own w0.heap.size q_.2.1 q_.2.2.2.1 q_.2.2.1 93 2 (cellsOf encNF (q_.2.2.2.2))]) (I := fun q_ => q_.1 ≤ q ∧ FLs q_.2.2.2.2 q_.2.2.2.1 (3 * q_.1)) (μ := fun q_ => q - q_.1) (s := (i, a, c, n_, L)) 1 ((i + 1, ao1_, cap1_, n_ + 1, L ++ [((5 : Int), (((⟨#[112, 101, 114, 99, 101, 110, 116, 32]⟩) ++ (decS ((i : Nat) : Int))) : ByteArray))])) ⟨⟨(by first | omega | (dsimp only; omega)), (by first | exact hF.mono (by omega) | exact (hF.snoc (by first | exact at_sz (by decide) | decide)).mono (by omega) | exact ((hF.snoc (by first | exact at_sz (by decide) | decide)).snoc (by first | exact at_sz (by decide) | decide)).mono (by omega) | exact (((hF.snoc (by first | exact at_sz (by decide) | decide)).snoc (by first | exact at_sz (by decide) | decide)).snoc (by first | exact at_sz (by decide) | decide)).mono (by omega))⟩, by first | omega | (dsimp only; omega)⟩ ⟨rfl, rfl, rfl, rfl, rfl, rfl, rfl, rfl, trivial⟩ rfl
      · try simp only [Bool.and_eq_true, Bool.or_eq_true, Bool.not_eq_true', Bool.not_eq_false', Bool.and_eq_false_iff, Bool.or_eq_false_iff, decide_eq_true_eq, decide_eq_false_iff_not, Int.not_lt, Int.not_le, ne_eq, Decidable.not_not] at h3
        refine WC.skip ?_
        refine QX.then_ ?_
        refine WC.seq ?_
        refine WC.seq ?_
        refine WC.region ?_
        refine SL.pure rfl rfl rfl (PureOp.move rfl) ?_
        refine SL.nil_then ?_
        refine WC.cond rfl (fun h7 => ?_) (fun h7 => ?_)
        · try simp only [Bool.and_eq_true, Bool.or_eq_true, Bool.not_eq_true', Bool.not_eq_false', Bool.and_eq_false_iff, Bool.or_eq_false_iff, decide_eq_true_eq, decide_eq_false_iff_not, Int.not_lt, Int.not_le, ne_eq, Decidable.not_not] at h7
          refine WC.region ?_
          refine SL.pure rfl rfl rfl (PureOp.move rfl) ?_
          refine SL.pure rfl rfl rfl (PureOp.move rfl) ?_
          refine SL.pure rfl rfl rfl (PureOp.build bld93 rfl rfl) ?_
          refine SL.buildSlice rfl rfl Try.underlying63 elem93 rfl rfl rfl rfl (fun b5 hb5 => ?_)
          refine SL.norm [_, _] rfl ?_
          refine SL.append 0 rfl rfl Try.underlying63 elem93 rfl rfl rfl rfl (SrcIs.own 1 rfl) (by rfl) (by first | omega | exact at_max (by decide)) (by first | omega | exact at_max (by decide)) (fun ao5_ cap5_ => ?_)
          refine SL.itemxs 0 rfl (show _ = cellsOf encNF (L ++ [((6 : Int), (((⟨#[112, 101, 114, 99, 101, 110, 116, 32]⟩) ++ (decS ((i : Nat) : Int))) : ByteArray))]) from by rw [cellsOf_append (l := L), cellsOf_one]; rfl) ?_
          refine SL.norm [_, _] rfl ?_
          refine SL.pure rfl rfl rfl (PureOp.assign rfl) ?_
          refine SL.nil_then ?_
          refine WC.seq ?_
          refine WC.region ?_
          refine SL.pure rfl rfl rfl (PureOp.move rfl) ?_
          refine SL.pure rfl rfl rfl (PureOp.move rfl) ?_
          refine SL.pure rfl rfl rfl (PureOp.indexAddrN Try.underlying74 sz137 rfl rfl (AoOk.in_ sI) (fun _ => by first | omega | exact at_max (by decide))) ?_
          refine SL.pure rfl rfl rfl (PureOp.fieldAddr 1 Try.underlying137 rfl rfl sz3 rfl) ?_
          refine SL.pure rfl rfl rfl (PureOp.load (v := .int .i64 ((nth l i).2)) Try.underlying3 rfl rfl (fun _ => (CellIs.in_ sI i 1 (by first | omega | exact at_max (by decide)) (by omega)))) ?_
          refine SL.pure rfl rfl rfl (PureOp.lss rfl rfl) ?_
          refine SL.pure rfl rfl rfl (PureOp.move rfl) ?_
          refine SL.newg 60 false rfl ?_
          refine SL.gpure (c := 1) rfl rfl rfl rfl rfl rfl rfl (PureOp.move rfl) ?_
          refine SL.gpure (c := 1) rfl rfl rfl rfl rfl rfl rfl (PureOp.move rfl) ?_
          refine SL.gpure (c := 1) rfl rfl rfl rfl rfl rfl rfl (PureOp.indexAddrN Try.underlying74 sz137 rfl rfl (AoOk.in_ sI) (by intro hg; simp [gval] at hg; first | omega | exact at_max (by decide))) ?_
          refine SL.gpure (c := 1) rfl rfl rfl rfl rfl rfl rfl (PureOp.fieldAddr 1 Try.underlying137 rfl rfl sz3 rfl) ?_
          refine SL.gpure (c := 1) rfl rfl rfl rfl rfl rfl rfl (PureOp.load (v := .int .i64 ((nth l i).2)) Try.underlying3 rfl rfl (by intro hg; simp [gval] at hg; exact (CellIs.in_ sI i 1 (by first | omega | exact at_max (by decide)) (by omega)))) ?_
          refine SL.gpure (c := 1) rfl rfl rfl rfl rfl rfl rfl (PureOp.gtr rfl rfl) ?_
          refine SL.pure rfl rfl rfl (PureOp.or_ rfl rfl rfl rfl) ?_
          refine SL.nil_then ?_
          refine WC.cond rfl (fun h8 => ?_) (fun h8 => ?_)
          · try simp only [Bool.and_eq_true, Bool.or_eq_true, Bool.not_eq_true', Bool.not_eq_false', Bool.and_eq_false_iff, Bool.or_eq_false_iff, decide_eq_true_eq, decide_eq_false_iff_not, Int.not_lt, Int.not_le, ne_eq, Decidable.not_not] at h8
            refine WC.region ?_
            refine SL.pure rfl rfl rfl (PureOp.move rfl) ?_
            refine SL.pure rfl rfl rfl (PureOp.move rfl) ?_
            refine SL.pure rfl rfl rfl (PureOp.build bld93 rfl rfl) ?_
            refine SL.buildSlice rfl rfl Try.underlying63 elem93 rfl rfl rfl rfl (fun b6 hb6 => ?_)
            refine SL.norm [_, _, _] rfl ?_
            refine SL.append 0 rfl rfl Try.underlying63 elem93 rfl rfl rfl rfl (SrcIs.own 2 rfl) (by rfl) (by first | omega | exact at_max (by decide)) (by first | omega | exact at_max (by decide)) (fun ao6_ cap6_ => ?_)
            refine SL.itemxs 0 rfl (show _ = cellsOf encNF ((L ++ [((6 : Int), (((⟨#[112, 101, 114, 99, 101, 110, 116, 32]⟩) ++ (decS ((i : Nat) : Int))) : ByteArray))]) ++ [((2 : Int), (((⟨#[112, 101, 114, 99, 101, 110, 116, 32]⟩) ++ (decS ((i : Nat) : Int))) : ByteArray))]) from by rw [cellsOf_append (l := (L ++ [((6 : Int), (((⟨#[112, 101, 114, 99, 101, 110, 116, 32]⟩) ++ (decS ((i : Nat) : Int))) : ByteArray))])), cellsOf_one]; rfl) ?_
            refine SL.norm [_, _, _] rfl ?_
            refine SL.pure rfl rfl rfl (PureOp.assign rfl) ?_
            refine SL.nil ?_
            refine QX.normal_in ?_
            refine QX.then_ ?_
            refine WC.region ?_
            refine SL.pure rfl rfl rfl (PureOp.move rfl) ?_
            refine SL.pure rfl rfl rfl (PureOp.addN (k := 1) rfl rfl (fun _ => by first | omega | exact at_max (by decide))) ?_
            refine SL.pure rfl rfl rfl (PureOp.assign rfl) ?_
            refine SL.nil ?_
            refine QX.round (σ := Nat × Option Addr × Nat × Nat × List NF) (Ef := fun q_ => [(0, 0, .slice ao q cap), (2, 0, .slice none 0 0), (4, 0, .int .i64 ((q_.1 : Nat) : Int)), (3, 0, .slice q_.2.1 q_.2.2.2.1 q_.2.2.1)]) (Hf := fun q_ => [Item.own w0.heap.size q_.2.1 q_.2.2.2.1 q_.2.2.1 93 2 (cellsOf encNF (q_.2.2.2.2))]) (I := fun q_ => q_.1 ≤ q ∧ FLs q_.2.2.2.2 q_.2.2.2.1 (3 * q_.1)) (μ := fun q_ => q - q_.1) (s := (i, a, c, n_, L)) 1 ((i + 1, ao6_, cap6_, (n_ + 1) + 1, (L ++ [((6 : Int), (((⟨#[112, 101, 114, 99, 101, 110, 116, 32]⟩) ++ (decS ((i : Nat) : Int))) : ByteArray))]) ++ [((2 : Int), (((⟨#[112, 101, 114, 99, 101, 110, 116, 32]⟩) ++ (decS ((i : Nat) : Int))) : ByteArray))])) ⟨⟨(by first | omega | (dsimp only; omega)), (by first | exact hF.mono (by omega) | exact (hF.snoc (by first | exact at_sz (by decide) | decide)).mono (by omega) | exact ((hF.snoc (by first | exact at_sz (by decide) | decide)).snoc (by first | exact at_sz (by decide) | decide)).mono (by omega) | exact (((hF.snoc (by first | exact at_sz (by decide) | decide)).snoc (by first | exact at_sz (by decide) | decide)).snoc (by first | exact at_sz (by decide) | decide)).mono (by omega))⟩, by first | omega | (dsimp only; omega)⟩ ⟨rfl, rfl, rfl, rfl, rfl, rfl, rfl, rfl, trivial⟩ rfl
          · try simp only [Bool.and_eq_true, Bool.or_eq_true, Bool.not_eq_true', Bool.not_eq_false', Bool.and_eq_false_iff, Bool.or_eq_false_iff, decide_eq_true_eq, decide_eq_false_iff_not, Int.not_lt, Int.not_le, ne_eq, Decidable.not_not] at h8
            refine WC.skip ?_
            refine QX.normal_in ?_
            refine QX.then_ ?_
            refine WC.region ?_
            refine SL.pure rfl rfl rfl (PureOp.move rfl) ?_
            refine SL.pure rfl rfl rfl (PureOp.addN (k := 1) rfl rfl (fun _ => by first | omega | exact at_max (by decide))) ?_
            refine SL.pure rfl rfl rfl (PureOp.assign rfl) ?_
            refine SL.nil ?_
            refine QX.round (σ := Nat × Option Addr × Nat × Nat × List NF) (Ef := fun q_ => [(0, 0, .slice ao q cap), (2, 0, .slice none 0 0), (4, 0, .int .i64 ((q_.1 : Nat) : Int)), (3, 0, .slice q_.2.1 q_.2.2.2.1 q_.2.2.1)]) (Hf := fun q_ => [Item.own w0.heap.size q_.2.1 q_.2.2.2.1 q_.2.2.1 93 2 (cellsOf encNF (q_.2.2.2.2))]) (I := fun q_ => q_.1 ≤ q ∧ FLs q_.2.2.2.2 q_.2.2.2.1 (3 * q_.1)) (μ := fun q_ => q - q_.1) (s := (i, a, c, n_, L)) 1 ((i + 1, ao5_, cap5_, n_ + 1, L ++ [((6 : Int), (((⟨#[112, 101, 114, 99, 101, 110, 116, 32]⟩) ++ (decS ((i : Nat) : Int))) : ByteArray))])) ⟨⟨(by first | omega | (dsimp only; omega)), (by first | exact hF.mono (by omega) | exact (hF.snoc (by first | exact at_sz (by decide) | decide)).mono (by omega) | exact ((hF.snoc (by first | exact at_sz (by decide) | decide)).snoc (by first | exact at_sz (by decide) | decide)).mono (by omega) | exact (((hF.snoc (by first | exact at_sz (by decide) | decide)).snoc (by first | exact at_sz (by decide) | decide)).snoc (by first | exact at_sz (by decide) | decide)).mono (by omega))⟩, by first | omega | (dsimp only; omega)⟩ ⟨rfl, rfl, rfl, rfl, rfl, rfl, rfl, rfl, trivial⟩ rfl
        · try simp only [Bool.and_eq_true, Bool.or_eq_true, Bool.not_eq_true', Bool.not_eq_false', Bool.and_eq_false_iff, Bool.or_eq_false_iff, decide_eq_true_eq, decide_eq_false_iff_not, Int.not_lt, Int.not_le, ne_eq, Decidable.not_not] at h7
          refine WC.skip ?_
          refine QX.then_ ?_
          refine WC.seq ?_
          refine WC.region ?_
          refine SL.pure rfl rfl rfl (PureOp.move rfl) ?_
          refine SL.pure rfl rfl rfl (PureOp.move rfl) ?_
          refine SL.pure rfl rfl rfl (PureOp.indexAddrN Try.underlying74 sz137 rfl rfl (AoOk.in_ sI) (fun _ => by first | omega | exact at_max (by decide))) ?_
          refine SL.pure rfl rfl rfl (PureOp.fieldAddr 1 Try.underlying137 rfl rfl sz3 rfl) ?_
          refine SL.pure rfl rfl rfl (PureOp.load (v := .int .i64 ((nth l i).2)) Try.underlying3 rfl rfl (fun _ => (CellIs.in_ sI i 1 (by first | omega | exact at_max (by decide)) (by omega)))) ?_
          refine SL.pure rfl rfl rfl (PureOp.lss rfl rfl) ?_
          refine SL.pure rfl rfl rfl (PureOp.move rfl) ?_
          refine SL.newg 60 false rfl ?_
          refine SL.gpure (c := 1) rfl rfl rfl rfl rfl rfl rfl (PureOp.move rfl) ?_
          refine SL.gpure (c := 1) rfl rfl rfl rfl rfl rfl rfl (PureOp.move rfl) ?_
          refine SL.gpure (c := 1) rfl rfl rfl rfl rfl rfl rfl (PureOp.indexAddrN Try.underlying74 sz137 rfl rfl (AoOk.in_ sI) (by intro hg; simp [gval] at hg; first | omega | exact at_max (by decide))) ?_
          refine SL.gpure (c := 1) rfl rfl rfl rfl rfl rfl rfl (PureOp.fieldAddr 1 Try.underlying137 rfl rfl sz3 rfl) ?_
          refine SL.gpure (c := 1) rfl rfl rfl rfl rfl rfl rfl (PureOp.load (v := .int .i64 ((nth l i).2)) Try.underlying3 rfl rfl (by intro hg; simp [gval] at hg; exact (CellIs.in_ sI i 1 (by first | omega | exact at_max (by decide)) (by omega)))) ?_
          refine SL.gpure (c := 1) rfl rfl rfl rfl rfl rfl rfl (PureOp.gtr rfl rfl) ?_
          refine SL.pure rfl rfl rfl (PureOp.or_ rfl rfl rfl rfl) ?_
          refine SL.nil_then ?_
          refine WC.cond rfl (fun h9 => ?_) (fun h9 => ?_)
          · try simp only [Bool.and_eq_true, Bool.or_eq_true, Bool.not_eq_true', Bool.not_eq_false', Bool.and_eq_false_iff, Bool.or_eq_false_iff, decide_eq_true_eq, decide_eq_false_iff_not, Int.not_lt, Int.not_le, ne_eq, Decidable.not_not] at h9
            refine WC.region ?_
            refine SL.pure rfl rfl rfl (PureOp.move rfl) ?_
            refine SL.pure rfl rfl rfl (PureOp.move rfl) ?_
            refine SL.pure rfl rfl rfl (PureOp.build bld93 rfl rfl) ?_
            refine SL.buildSlice rfl rfl Try.underlying63 elem93 rfl rfl rfl rfl (fun b7 hb7 => ?_)
            refine SL.norm [_, _] rfl ?_
            refine SL.append 0 rfl rfl Try.underlying63 elem93 rfl rfl rfl rfl (SrcIs.own 1 rfl) (by rfl) (by first | omega | exact at_max (by decide)) (by first | omega | exact at_max (by decide)) (fun ao7_ cap7_ => ?_)
            refine SL.itemxs 0 rfl (show _ = cellsOf encNF (L ++ [((2 : Int), (((⟨#[112, 101, 114, 99, 101, 110, 116, 32]⟩) ++ (decS ((i : Nat) : Int))) : ByteArray))]) from by rw [cellsOf_append (l := L), cellsOf_one]; rfl) ?_
            refine SL.norm [_, _] rfl ?_
            refine SL.pure rfl rfl rfl (PureOp.assign rfl) ?_
            refine SL.nil ?_
            refine QX.normal_in ?_
            refine QX.then_ ?_
            refine WC.region ?_
            refine SL.pure rfl rfl rfl (PureOp.move rfl) ?_
            refine SL.pure rfl rfl rfl (PureOp.addN (k := 1) rfl rfl (fun _ => by first | omega | exact at_max (by decide))) ?_
            refine SL.pure rfl rfl rfl (PureOp.assign rfl) ?_
            refine SL.nil ?_
            refine QX.round (σ := Nat × Option Addr × Nat × Nat × List NF) (Ef := fun q_ => [(0, 0, .slice ao q cap), (2, 0, .slice none 0 0), (4, 0, .int .i64 ((q_.1 : Nat) : Int)), (3, 0, .slice q_.2.1 q_.2.2.2.1 q_.2.2.1)]) (Hf := fun q_ => [Item.own w0.heap.size q_.2.1 q_.2.2.2.1 q_.2.2.1 93 2 (cellsOf encNF (q_.2.2.2.2))]) (I := fun q_ => q_.1 ≤ q ∧ FLs q_.2.2.2.2 q_.2.2.2.1 (3 * q_.1)) (μ := fun q_ => q - q_.1) (s := (i, a, c, n_, L)) 1 ((i + 1, ao7_, cap7_, n_ + 1, L ++ [((2 : Int), (((⟨#[112, 101, 114, 99, 101, 110, 116, 32]⟩) ++ (decS ((i : Nat) : Int))) : ByteArray))])) ⟨⟨(by first | omega | (dsimp only; omega)), (by first | exact hF.mono (by omega) | exact (hF.snoc (by first | exact at_sz (by decide) | decide)).mono (by omega) | exact ((hF.snoc (by first | exact at_sz (by decide) | decide)).snoc (by first | exact at_sz (by decide) | decide)).mono (by omega) | exact (((hF.snoc (by first | exact at_sz (by decide) | decide)).snoc (by first | exact at_sz (by decide) | decide)).snoc (by first | exact at_sz (by decide) | decide)).mono (by omega))⟩, by first | omega | (dsimp only; omega)⟩ ⟨rfl, rfl, rfl, rfl, rfl, rfl, rfl, rfl, trivial⟩ rfl
          · try simp only [Bool.and_eq_true, Bool.or_eq_true, Bool.not_eq_true', Bool.not_eq_false', Bool.and_eq_false_iff, Bool.or_eq_false_iff, decide_eq_true_eq, decide_eq_false_iff_not, Int.not_lt, Int.not_le, ne_eq, Decidable.not_not] at h9
            refine WC.skip ?_
            refine QX.normal_in ?_
            refine QX.then_ ?_
            refine WC.region ?_
            refine SL.pure rfl rfl rfl (PureOp.move rfl) ?_
            refine SL.pure rfl rfl rfl (PureOp.addN (k := 1) rfl rfl (fun _ => by first | omega | exact at_max (by decide))) ?_
            refine SL.pure rfl rfl rfl (PureOp.assign rfl) ?_
            refine SL.nil ?_
            refine QX.round (σ := Nat × Option Addr × Nat × Nat × List NF) (Ef := fun q_ => [(0, 0, .slice ao q cap), (2, 0, .slice none 0 0), (4, 0, .int .i64 ((q_.1 : Nat) : Int)), (3, 0, .slice q_.2.1 q_.2.2.2.1 q_.2.2.1)]) (Hf := fun q_ => [Item.own w0.heap.size q_.2.1 q_.2.2.2.1 q_.2.2.1 93 2 (cellsOf encNF (q_.2.2.2.2))]) (I := fun q_ => q_.1 ≤ q ∧ FLs q_.2.2.2.2 q_.2.2.2.1 (3 * q_.1)) (μ := fun q_ => q - q_.1) (s := (i, a, c, n_, L)) 1 ((i + 1, a, c, n_, L)) ⟨⟨(by first | omega | (dsimp only; omega)), (by first | exact hF.mono (by omega) | exact (hF.snoc (by first | exact at_sz (by decide) | decide)).mono (by omega) | exact ((hF.snoc (by first | exact at_sz (by decide) | decide)).snoc (by first | exact at_sz (by decide) | decide)).mono (by omega) | exact (((hF.snoc (by first | exact at_sz (by decide) | decide)).snoc (by first | exact at_sz (by decide) | decide)).snoc (by first | exact at_sz (by decide) | decide)).mono (by omega))⟩, by first | omega | (dsimp only; omega)⟩ ⟨rfl, rfl, rfl, rfl, rfl, rfl, rfl, rfl, trivial⟩ rfl
  · try simp only [Bool.and_eq_true, Bool.or_eq_true, Bool.not_eq_true', Bool.not_eq_false', Bool.and_eq_false_iff, Bool.or_eq_false_iff, decide_eq_true_eq, decide_eq_false_iff_not, Int.not_lt, Int.not_le, ne_eq, Decidable.not_not] at h1
    refine WC.exit ?_
    refine QX.exit_then ?_
    refine QX.exit_then ?_
    refine QX.exit_hit ?_
    refine QX.then_ ?_
    refine WC.seq ?_
    refine WC.region ?_
    refine SL.pure rfl rfl rfl (PureOp.move rfl) ?_
    refine SL.pure rfl rfl rfl (PureOp.assign rfl) ?_
    refine SL.nil_then ?_
    refine WC.ret ?_
    refine QX.ret1 rfl rfl ?_
    intro w hw
    exact ⟨a, c, n_, L, rfl, hF.mono (by omega), hw.mem (i := 0) rfl⟩

set_option maxHeartbeats 4000000 in
set_option maxRecDepth 100000 in
theorem rulef_any (w0 : World) (x : Ru) (hC : CondG w0 x.2.1.2.1) (hT : StrG w0 x.2.1.2.2.2.2.2) (sI : SliceIn w0 1 x.2.2.1.ao x.2.2.1.l.length x.2.2.1.cap (rowsF encI x.2.2.1.l)) (hIm : x.2.2.1.l.length ≤ 1048576) (pl : List (ByteArray × Int)) (hpl : pl.length = x.2.2.2.2.2.2.2.l.length) (sP : SliceIn w0 2 x.2.2.2.2.2.2.2.ao x.2.2.2.2.2.2.2.l.length x.2.2.2.2.2.2.2.cap (rowsF enc137 pl)) (hps : ∀ y ∈ pl, y.1.size ≤ maxLen) (hPm : x.2.2.2.2.2.2.2.l.length ≤ 1048576) : FnC Try.prog 41 [.agg #[.int .i64 x.1, .int .i64 x.2.1.1, .slice x.2.1.2.1.ao x.2.1.2.1.l.length x.2.1.2.1.cap, .int .i64 x.2.1.2.2.1, .int .i64 x.2.1.2.2.2.1, .int .i64 x.2.1.2.2.2.2.1.1, .int .i64 x.2.1.2.2.2.2.1.2.1, .int .i64 x.2.1.2.2.2.2.1.2.2, .slice x.2.1.2.2.2.2.2.ao x.2.1.2.2.2.2.2.l.length x.2.1.2.2.2.2.2.cap, .slice x.2.2.1.ao x.2.2.1.l.length x.2.2.1.cap, .int .i64 x.2.2.2.1, .int .i64 x.2.2.2.2.1, .int .i64 x.2.2.2.2.2.1, .int .i64 x.2.2.2.2.2.2.1, .slice x.2.2.2.2.2.2.2.ao x.2.2.2.2.2.2.2.l.length x.2.2.2.2.2.2.2.cap]] w0 fun v w' => ∃ a cp n L, v = .slice a n cp ∧ FLs L n 6000000 ∧ w'.ownsRow w0.heap.size 93 2 (.slice a n cp) n (cellsOf encNF L) := by
  refine fnc (N := 95) Try.func41 rfl rfl rfl ?_
  refine WC.seq ?_
  refine WC.region ?_
  refine SL.box rfl rfl rfl (fun b1 hb1 => ?_)
  refine SL.norm [_] rfl ?_
  refine SL.pure rfl rfl rfl (PureOp.assign rfl) ?_
  refine SL.nil_then ?_
  refine WC.seq ?_
  refine WC.region ?_
  refine SL.addnil 93 2 ?_
  refine SL.pure rfl rfl rfl (PureOp.assign rfl) ?_
  refine SL.nil_then ?_
  refine WC.cutx (σ := Option Addr × Nat × Nat × List NF) (fun q_ => [(0, 0, .agg #[.int .i64 x.1, .int .i64 x.2.1.1, .slice x.2.1.2.1.ao x.2.1.2.1.l.length x.2.1.2.1.cap, .int .i64 x.2.1.2.2.1, .int .i64 x.2.1.2.2.2.1, .int .i64 x.2.1.2.2.2.2.1.1, .int .i64 x.2.1.2.2.2.2.1.2.1, .int .i64 x.2.1.2.2.2.2.1.2.2, .slice x.2.1.2.2.2.2.2.ao x.2.1.2.2.2.2.2.l.length x.2.1.2.2.2.2.2.cap, .slice x.2.2.1.ao x.2.2.1.l.length x.2.2.1.cap, .int .i64 x.2.2.2.1, .int .i64 x.2.2.2.2.1, .int .i64 x.2.2.2.2.2.1, .int .i64 x.2.2.2.2.2.2.1, .slice x.2.2.2.2.2.2.2.ao x.2.2.2.2.2.2.2.l.length x.2.2.2.2.2.2.2.cap]), (1, 0, .pointer (some ⟨b1, 0, none⟩)), (2, 0, .slice none 0 0), (3, 0, .slice q_.1 q_.2.2.1 q_.2.1)]) (fun q_ => [Item.cells b1 [.int .i64 x.1, .int .i64 x.2.1.1, .slice x.2.1.2.1.ao x.2.1.2.1.l.length x.2.1.2.1.cap, .int .i64 x.2.1.2.2.1, .int .i64 x.2.1.2.2.2.1, .int .i64 x.2.1.2.2.2.2.1.1, .int .i64 x.2.1.2.2.2.2.1.2.1, .int .i64 x.2.1.2.2.2.2.1.2.2, .slice x.2.1.2.2.2.2.2.ao x.2.1.2.2.2.2.2.l.length x.2.1.2.2.2.2.2.cap, .slice x.2.2.1.ao x.2.2.1.l.length x.2.2.1.cap, .int .i64 x.2.2.2.1, .int .i64 x.2.2.2.2.1, .int .i64 x.2.2.2.2.2.1, .int .i64 x.2.2.2.2.2.2.1, .slice x.2.2.2.2.2.2.2.ao x.2.2.2.2.2.2.2.l.length x.2.2.2.2.2.2.2.cap] 76, Item.own w0.heap.size q_.1 q_.2.2.1 q_.2.1 93 2 (cellsOf encNF (q_.2.2.2))]) (fun q_ => FLs q_.2.2.2 q_.2.2.1 1) ?_ ?_
  · skip
    refine WC.seq ?_
    refine WC.region ?_
    refine SL.pure rfl rfl rfl (PureOp.fieldAddrT 0 Try.underlying76 rfl sz3 rfl rfl) ?_
    refine SL.pure rfl rfl rfl (PureOp.load (v := .int .i64 x.1) Try.underlying3 rfl rfl (fun _ => (CellIs.cells 0 rfl rfl))) ?_
    refine SL.pure rfl rfl rfl (PureOp.lss rfl rfl) ?_
    refine SL.pure rfl rfl rfl (PureOp.move rfl) ?_
    refine SL.newg 8 false rfl ?_
    refine SL.gpure (c := 1) rfl rfl rfl rfl rfl rfl rfl (PureOp.fieldAddrT 0 Try.underlying76 rfl sz3 rfl rfl) ?_
    refine SL.gpure (c := 1) rfl rfl rfl rfl rfl rfl rfl (PureOp.load (v := .int .i64 x.1) Try.underlying3 rfl rfl (fun _ => (CellIs.cells 0 rfl rfl))) ?_
    refine SL.gpure (c := 1) rfl rfl rfl rfl rfl rfl rfl (PureOp.gtr rfl rfl) ?_
    refine SL.pure rfl rfl rfl (PureOp.or_ rfl rfl rfl rfl) ?_
    refine SL.nil_then ?_
    refine WC.cond rfl (fun h1 => ?_) (fun h1 => ?_)
    · try simp only [Bool.and_eq_true, Bool.or_eq_true, Bool.not_eq_true', Bool.not_eq_false', Bool.and_eq_false_iff, Bool.or_eq_false_iff, decide_eq_true_eq, decide_eq_false_iff_not, Int.not_lt, Int.not_le, ne_eq, Decidable.not_not] at h1
      refine WC.region ?_
      refine SL.pure rfl rfl rfl (PureOp.move rfl) ?_
      refine SL.pure rfl rfl rfl (PureOp.build bld93 rfl rfl) ?_
      refine SL.buildSlice rfl rfl Try.underlying63 elem93 rfl rfl rfl rfl (fun b2 hb2 => ?_)
      refine SL.norm [_, _, _] rfl ?_
      refine SL.append 1 rfl rfl Try.underlying63 elem93 rfl rfl rfl rfl (SrcIs.own 2 rfl) (by rfl) (by omega) (by omega) (fun ao1_ cap1_ => ?_)
      refine SL.itemxs 1 rfl (show _ = cellsOf encNF ([] ++ [((2 : Int), ((⟨#[110, 117, 109, 98, 101, 114]⟩) : ByteArray))]) from by rw [cellsOf_append (l := ([])), cellsOf_one]; rfl) ?_
      refine SL.norm [_, _, _] rfl ?_
      refine SL.pure rfl rfl rfl (PureOp.assign rfl) ?_
      refine SL.nil ?_
      refine QX.cutx (σ := Option Addr × Nat × Nat × List NF) (E' := fun q_ => [(0, 0, .agg #[.int .i64 x.1, .int .i64 x.2.1.1, .slice x.2.1.2.1.ao x.2.1.2.1.l.length x.2.1.2.1.cap, .int .i64 x.2.1.2.2.1, .int .i64 x.2.1.2.2.2.1, .int .i64 x.2.1.2.2.2.2.1.1, .int .i64 x.2.1.2.2.2.2.1.2.1, .int .i64 x.2.1.2.2.2.2.1.2.2, .slice x.2.1.2.2.2.2.2.ao x.2.1.2.2.2.2.2.l.length x.2.1.2.2.2.2.2.cap, .slice x.2.2.1.ao x.2.2.1.l.length x.2.2.1.cap, .int .i64 x.2.2.2.1, .int .i64 x.2.2.2.2.1, .int .i64 x.2.2.2.2.2.1, .int .i64 x.2.2.2.2.2.2.1, .slice x.2.2.2.2.2.2.2.ao x.2.2.2.2.2.2.2.l.length x.2.2.2.2.2.2.2.cap]), (1, 0, .pointer (some ⟨b1, 0, none⟩)), (2, 0, .slice none 0 0), (3, 0, .slice q_.1 q_.2.2.1 q_.2.1)]) (H' := fun q_ => [Item.cells b1 [.int .i64 x.1, .int .i64 x.2.1.1, .slice x.2.1.2.1.ao x.2.1.2.1.l.length x.2.1.2.1.cap, .int .i64 x.2.1.2.2.1, .int .i64 x.2.1.2.2.2.1, .int .i64 x.2.1.2.2.2.2.1.1, .int .i64 x.2.1.2.2.2.2.1.2.1, .int .i64 x.2.1.2.2.2.2.1.2.2, .slice x.2.1.2.2.2.2.2.ao x.2.1.2.2.2.2.2.l.length x.2.1.2.2.2.2.2.cap, .slice x.2.2.1.ao x.2.2.1.l.length x.2.2.1.cap, .int .i64 x.2.2.2.1, .int .i64 x.2.2.2.2.1, .int .i64 x.2.2.2.2.2.1, .int .i64 x.2.2.2.2.2.2.1, .slice x.2.2.2.2.2.2.2.ao x.2.2.2.2.2.2.2.l.length x.2.2.2.2.2.2.2.cap] 76, Item.own w0.heap.size q_.1 q_.2.2.1 q_.2.1 93 2 (cellsOf encNF (q_.2.2.2))]) (I := fun q_ => FLs q_.2.2.2 q_.2.2.1 1) 2 ((ao1_, cap1_, 0 + 1, [] ++ [((2 : Int), ((⟨#[110, 117, 109, 98, 101, 114]⟩) : ByteArray))])) ((by first | exact (FLs.nil).mono (by omega) | exact ((FLs.nil).snoc (by first | exact at_sz (by decide) | decide)).mono (by omega) | exact (((FLs.nil).snoc (by first | exact at_sz (by decide) | decide)).snoc (by first | exact at_sz (by decide) | decide)).mono (by omega) | exact ((((FLs.nil).snoc (by first | exact at_sz (by decide) | decide)).snoc (by first | exact at_sz (by decide) | decide)).snoc (by first | exact at_sz (by decide) | decide)).mono (by omega))) ⟨rfl, rfl, rfl, rfl, rfl, rfl, rfl, rfl, trivial⟩ rfl
    · try simp only [Bool.and_eq_true, Bool.or_eq_true, Bool.not_eq_true', Bool.not_eq_false', Bool.and_eq_false_iff, Bool.or_eq_false_iff, decide_eq_true_eq, decide_eq_false_iff_not, Int.not_lt, Int.not_le, ne_eq, Decidable.not_not] at h1
      refine WC.skip ?_
      refine QX.cutx (σ := Option Addr × Nat × Nat × List NF) (E' := fun q_ => [(0, 0, .agg #[.int .i64 x.1, .int .i64 x.2.1.1, .slice x.2.1.2.1.ao x.2.1.2.1.l.length x.2.1.2.1.cap, .int .i64 x.2.1.2.2.1, .int .i64 x.2.1.2.2.2.1, .int .i64 x.2.1.2.2.2.2.1.1, .int .i64 x.2.1.2.2.2.2.1.2.1, .int .i64 x.2.1.2.2.2.2.1.2.2, .slice x.2.1.2.2.2.2.2.ao x.2.1.2.2.2.2.2.l.length x.2.1.2.2.2.2.2.cap, .slice x.2.2.1.ao x.2.2.1.l.length x.2.2.1.cap, .int .i64 x.2.2.2.1, .int .i64 x.2.2.2.2.1, .int .i64 x.2.2.2.2.2.1, .int .i64 x.2.2.2.2.2.2.1, .slice x.2.2.2.2.2.2.2.ao x.2.2.2.2.2.2.2.l.length x.2.2.2.2.2.2.2.cap]), (1, 0, .pointer (some ⟨b1, 0, none⟩)), (2, 0, .slice none 0 0), (3, 0, .slice q_.1 q_.2.2.1 q_.2.1)]) (H' := fun q_ => [Item.cells b1 [.int .i64 x.1, .int .i64 x.2.1.1, .slice x.2.1.2.1.ao x.2.1.2.1.l.length x.2.1.2.1.cap, .int .i64 x.2.1.2.2.1, .int .i64 x.2.1.2.2.2.1, .int .i64 x.2.1.2.2.2.2.1.1, .int .i64 x.2.1.2.2.2.2.1.2.1, .int .i64 x.2.1.2.2.2.2.1.2.2, .slice x.2.1.2.2.2.2.2.ao x.2.1.2.2.2.2.2.l.length x.2.1.2.2.2.2.2.cap, .slice x.2.2.1.ao x.2.2.1.l.length x.2.2.1.cap, .int .i64 x.2.2.2.1, .int .i64 x.2.2.2.2.1, .int .i64 x.2.2.2.2.2.1, .int .i64 x.2.2.2.2.2.2.1, .slice x.2.2.2.2.2.2.2.ao x.2.2.2.2.2.2.2.l.length x.2.2.2.2.2.2.2.cap] 76, Item.own w0.heap.size q_.1 q_.2.2.1 q_.2.1 93 2 (cellsOf encNF (q_.2.2.2))]) (I := fun q_ => FLs q_.2.2.2 q_.2.2.1 1) 2 ((none, 0, 0, [])) ((by first | exact (FLs.nil).mono (by omega) | exact ((FLs.nil).snoc (by first | exact at_sz (by decide) | decide)).mono (by omega) | exact (((FLs.nil).snoc (by first | exact at_sz (by decide) | decide)).snoc (by first | exact at_sz (by decide) | decide)).mono (by omega) | exact ((((FLs.nil).snoc (by first | exact at_sz (by decide) | decide)).snoc (by first | exact at_sz (by decide) | decide)).snoc (by first | exact at_sz (by decide) | decide)).mono (by omega))) ⟨rfl, rfl, rfl, rfl, rfl, rfl, rfl, rfl, trivial⟩ rfl
  rintro ⟨a1_, c1_, n1_, L1_⟩ hF1
  try dsimp only at *
  have hFl1 := hF1.ln.le
  refine WC.seq ?_
  refine WC.region ?_
  refine SL.pure rfl rfl rfl (PureOp.fieldAddrT 1 Try.underlying76 rfl sz72 rfl rfl) ?_
  refine SL.pure rfl rfl rfl (PureOp.loads (vs := [.int .i64 x.2.1.1, .slice x.2.1.2.1.ao x.2.1.2.1.l.length x.2.1.2.1.cap, .int .i64 x.2.1.2.2.1, .int .i64 x.2.1.2.2.2.1, .int .i64 x.2.1.2.2.2.2.1.1, .int .i64 x.2.1.2.2.2.2.1.2.1, .int .i64 x.2.1.2.2.2.2.1.2.2, .slice x.2.1.2.2.2.2.2.ao x.2.1.2.2.2.2.2.l.length x.2.1.2.2.2.2.2.cap]) Try.underlying72 rfl rfl (fun _ => (RowIs.cells 0 1 8 rfl rfl)) sz72) ?_
  refine SL.callv rfl rfl rfl rfl rfl rfl callable64 (fun w hw => cond_any x.2.1 hC hT w hw.below) ?_
  rintro v ⟨ce, rfl⟩
  refine SL.norm [_, _] rfl ?_
  refine SL.pure rfl rfl rfl (PureOp.assign rfl) ?_
  refine SL.nil_then ?_
  refine WC.cutx (σ := Option Addr × Nat × Nat × List NF) (fun q_ => [(0, 0, .agg #[.int .i64 x.1, .int .i64 x.2.1.1, .slice x.2.1.2.1.ao x.2.1.2.1.l.length x.2.1.2.1.cap, .int .i64 x.2.1.2.2.1, .int .i64 x.2.1.2.2.2.1, .int .i64 x.2.1.2.2.2.2.1.1, .int .i64 x.2.1.2.2.2.2.1.2.1, .int .i64 x.2.1.2.2.2.2.1.2.2, .slice x.2.1.2.2.2.2.2.ao x.2.1.2.2.2.2.2.l.length x.2.1.2.2.2.2.2.cap, .slice x.2.2.1.ao x.2.2.1.l.length x.2.2.1.cap, .int .i64 x.2.2.2.1, .int .i64 x.2.2.2.2.1, .int .i64 x.2.2.2.2.2.1, .int .i64 x.2.2.2.2.2.2.1, .slice x.2.2.2.2.2.2.2.ao x.2.2.2.2.2.2.2.l.length x.2.2.2.2.2.2.2.cap]), (1, 0, .pointer (some ⟨b1, 0, none⟩)), (2, 0, .slice none 0 0), (4, 0, .int .i64 ce), (17, 0, .pointer (some ⟨b1, 1, none⟩)), (18, 0, .agg #[.int .i64 x.2.1.1, .slice x.2.1.2.1.ao x.2.1.2.1.l.length x.2.1.2.1.cap, .int .i64 x.2.1.2.2.1, .int .i64 x.2.1.2.2.2.1, .int .i64 x.2.1.2.2.2.2.1.1, .int .i64 x.2.1.2.2.2.2.1.2.1, .int .i64 x.2.1.2.2.2.2.1.2.2, .slice x.2.1.2.2.2.2.2.ao x.2.1.2.2.2.2.2.l.length x.2.1.2.2.2.2.2.cap]), (19, 0, .int .i64 ce), (3, 0, .slice q_.1 q_.2.2.1 q_.2.1)]) (fun q_ => [Item.cells b1 [.int .i64 x.1, .int .i64 x.2.1.1, .slice x.2.1.2.1.ao x.2.1.2.1.l.length x.2.1.2.1.cap, .int .i64 x.2.1.2.2.1, .int .i64 x.2.1.2.2.2.1, .int .i64 x.2.1.2.2.2.2.1.1, .int .i64 x.2.1.2.2.2.2.1.2.1, .int .i64 x.2.1.2.2.2.2.1.2.2, .slice x.2.1.2.2.2.2.2.ao x.2.1.2.2.2.2.2.l.length x.2.1.2.2.2.2.2.cap, .slice x.2.2.1.ao x.2.2.1.l.length x.2.2.1.cap, .int .i64 x.2.2.2.1, .int .i64 x.2.2.2.2.1, .int .i64 x.2.2.2.2.2.1, .int .i64 x.2.2.2.2.2.2.1, .slice x.2.2.2.2.2.2.2.ao x.2.2.2.2.2.2.2.l.length x.2.2.2.2.2.2.2.cap] 76, Item.own w0.heap.size q_.1 q_.2.2.1 q_.2.1 93 2 (cellsOf encNF (q_.2.2.2))]) (fun q_ => FLs q_.2.2.2 q_.2.2.1 2) ?_ ?_
  · skip
    refine WC.seq ?_
    refine WC.region ?_
    refine SL.pure rfl rfl rfl (PureOp.move rfl) ?_
    refine SL.pure rfl rfl rfl (PureOp.neq rfl rfl) ?_
    refine SL.nil_then ?_
    refine WC.cond rfl (fun h2 => ?_) (fun h2 => ?_)
    · try simp only [Bool.and_eq_true, Bool.or_eq_true, Bool.not_eq_true', Bool.not_eq_false', Bool.and_eq_false_iff, Bool.or_eq_false_iff, decide_eq_true_eq, decide_eq_false_iff_not, Int.not_lt, Int.not_le, ne_eq, Decidable.not_not] at h2
      refine WC.region ?_
      refine SL.pure rfl rfl rfl (PureOp.move rfl) ?_
      refine SL.pure rfl rfl rfl (PureOp.move rfl) ?_
      refine SL.pure rfl rfl rfl (PureOp.build bld93 rfl rfl) ?_
      refine SL.buildSlice rfl rfl Try.underlying63 elem93 rfl rfl rfl rfl (fun b3 hb3 => ?_)
      refine SL.norm [_, _, _] rfl ?_
      refine SL.append 1 rfl rfl Try.underlying63 elem93 rfl rfl rfl rfl (SrcIs.own 2 rfl) (by rfl) (by omega) (by omega) (fun ao2_ cap2_ => ?_)
      refine SL.itemxs 1 rfl (show _ = cellsOf encNF (L1_ ++ [((ce : Int), ((⟨#[119, 104, 101, 110]⟩) : ByteArray))]) from by rw [cellsOf_append (l := L1_), cellsOf_one]; rfl) ?_
      refine SL.norm [_, _, _] rfl ?_
      refine SL.pure rfl rfl rfl (PureOp.assign rfl) ?_
      refine SL.nil ?_
      refine QX.cutx (σ := Option Addr × Nat × Nat × List NF) (E' := fun q_ => [(0, 0, .agg #[.int .i64 x.1, .int .i64 x.2.1.1, .slice x.2.1.2.1.ao x.2.1.2.1.l.length x.2.1.2.1.cap, .int .i64 x.2.1.2.2.1, .int .i64 x.2.1.2.2.2.1, .int .i64 x.2.1.2.2.2.2.1.1, .int .i64 x.2.1.2.2.2.2.1.2.1, .int .i64 x.2.1.2.2.2.2.1.2.2, .slice x.2.1.2.2.2.2.2.ao x.2.1.2.2.2.2.2.l.length x.2.1.2.2.2.2.2.cap, .slice x.2.2.1.ao x.2.2.1.l.length x.2.2.1.cap, .int .i64 x.2.2.2.1, .int .i64 x.2.2.2.2.1, .int .i64 x.2.2.2.2.2.1, .int .i64 x.2.2.2.2.2.2.1, .slice x.2.2.2.2.2.2.2.ao x.2.2.2.2.2.2.2.l.length x.2.2.2.2.2.2.2.cap]), (1, 0, .pointer (some ⟨b1, 0, none⟩)), (2, 0, .slice none 0 0), (4, 0, .int .i64 ce), (17, 0, .pointer (some ⟨b1, 1, none⟩)), (18, 0, .agg #[.int .i64 x.2.1.1, .slice x.2.1.2.1.ao x.2.1.2.1.l.length x.2.1.2.1.cap, .int .i64 x.2.1.2.2.1, .int .i64 x.2.1.2.2.2.1, .int .i64 x.2.1.2.2.2.2.1.1, .int .i64 x.2.1.2.2.2.2.1.2.1, .int .i64 x.2.1.2.2.2.2.1.2.2, .slice x.2.1.2.2.2.2.2.ao x.2.1.2.2.2.2.2.l.length x.2.1.2.2.2.2.2.cap]), (19, 0, .int .i64 ce), (3, 0, .slice q_.1 q_.2.2.1 q_.2.1)]) (H' := fun q_ => [Item.cells b1 [.int .i64 x.1, .int .i64 x.2.1.1, .slice x.2.1.2.1.ao x.2.1.2.1.l.length x.2.1.2.1.cap, .int .i64 x.2.1.2.2.1, .int .i64 x.2.1.2.2.2.1, .int .i64 x.2.1.2.2.2.2.1.1, .int .i64 x.2.1.2.2.2.2.1.2.1, .int .i64 x.2.1.2.2.2.2.1.2.2, .slice x.2.1.2.2.2.2.2.ao x.2.1.2.2.2.2.2.l.length x.2.1.2.2.2.2.2.cap, .slice x.2.2.1.ao x.2.2.1.l.length x.2.2.1.cap, .int .i64 x.2.2.2.1, .int .i64 x.2.2.2.2.1, .int .i64 x.2.2.2.2.2.1, .int .i64 x.2.2.2.2.2.2.1, .slice x.2.2.2.2.2.2.2.ao x.2.2.2.2.2.2.2.l.length x.2.2.2.2.2.2.2.cap] 76, Item.own w0.heap.size q_.1 q_.2.2.1 q_.2.1 93 2 (cellsOf encNF (q_.2.2.2))]) (I := fun q_ => FLs q_.2.2.2 q_.2.2.1 2) 2 ((ao2_, cap2_, n1_ + 1, L1_ ++ [((ce : Int), ((⟨#[119, 104, 101, 110]⟩) : ByteArray))])) ((by first | exact hF1.mono (by omega) | exact (hF1.snoc (by first | exact at_sz (by decide) | decide)).mono (by omega) | exact ((hF1.snoc (by first | exact at_sz (by decide) | decide)).snoc (by first | exact at_sz (by decide) | decide)).mono (by omega) | exact (((hF1.snoc (by first | exact at_sz (by decide) | decide)).snoc (by first | exact at_sz (by decide) | decide)).snoc (by first | exact at_sz (by decide) | decide)).mono (by omega))) ⟨rfl, rfl, rfl, rfl, rfl, rfl, rfl, rfl, rfl, rfl, rfl, rfl, rfl, rfl, rfl, rfl, trivial⟩ rfl
    · try simp only [Bool.and_eq_true, Bool.or_eq_true, Bool.not_eq_true', Bool.not_eq_false', Bool.and_eq_false_iff, Bool.or_eq_false_iff, decide_eq_true_eq, decide_eq_false_iff_not, Int.not_lt, Int.not_le, ne_eq, Decidable.not_not] at h2
      refine WC.skip ?_
      refine QX.cutx (σ := Option Addr × Nat × Nat × List NF) (E' := fun q_ => [(0, 0, .agg #[.int .i64 x.1, .int .i64 x.2.1.1, .slice x.2.1.2.1.ao x.2.1.2.1.l.length x.2.1.2.1.cap, .int .i64 x.2.1.2.2.1, .int .i64 x.2.1.2.2.2.1, .int .i64 x.2.1.2.2.2.2.1.1, .int .i64 x.2.1.2.2.2.2.1.2.1, .int .i64 x.2.1.2.2.2.2.1.2.2, .slice x.2.1.2.2.2.2.2.ao x.2.1.2.2.2.2.2.l.length x.2.1.2.2.2.2.2.cap, .slice x.2.2.1.ao x.2.2.1.l.length x.2.2.1.cap, .int .i64 x.2.2.2.1, .int .i64 x.2.2.2.2.1, .int .i64 x.2.2.2.2.2.1, .int .i64 x.2.2.2.2.2.2.1, .slice x.2.2.2.2.2.2.2.ao x.2.2.2.2.2.2.2.l.length x.2.2.2.2.2.2.2.cap]), (1, 0, .pointer (some ⟨b1, 0, none⟩)), (2, 0, .slice none 0 0), (4, 0, .int .i64 ce), (17, 0, .pointer (some ⟨b1, 1, none⟩)), (18, 0, .agg #[.int .i64 x.2.1.1, .slice x.2.1.2.1.ao x.2.1.2.1.l.length x.2.1.2.1.cap, .int .i64 x.2.1.2.2.1, .int .i64 x.2.1.2.2.2.1, .int .i64 x.2.1.2.2.2.2.1.1, .int .i64 x.2.1.2.2.2.2.1.2.1, .int .i64 x.2.1.2.2.2.2.1.2.2, .slice x.2.1.2.2.2.2.2.ao x.2.1.2.2.2.2.2.l.length x.2.1.2.2.2.2.2.cap]), (19, 0, .int .i64 ce), (3, 0, .slice q_.1 q_.2.2.1 q_.2.1)]) (H' := fun q_ => [Item.cells b1 [.int .i64 x.1, .int .i64 x.2.1.1, .slice x.2.1.2.1.ao x.2.1.2.1.l.length x.2.1.2.1.cap, .int .i64 x.2.1.2.2.1, .int .i64 x.2.1.2.2.2.1, .int .i64 x.2.1.2.2.2.2.1.1, .int .i64 x.2.1.2.2.2.2.1.2.1, .int .i64 x.2.1.2.2.2.2.1.2.2, .slice x.2.1.2.2.2.2.2.ao x.2.1.2.2.2.2.2.l.length x.2.1.2.2.2.2.2.cap, .slice x.2.2.1.ao x.2.2.1.l.length x.2.2.1.cap, .int .i64 x.2.2.2.1, .int .i64 x.2.2.2.2.1, .int .i64 x.2.2.2.2.2.1, .int .i64 x.2.2.2.2.2.2.1, .slice x.2.2.2.2.2.2.2.ao x.2.2.2.2.2.2.2.l.length x.2.2.2.2.2.2.2.cap] 76, Item.own w0.heap.size q_.1 q_.2.2.1 q_.2.1 93 2 (cellsOf encNF (q_.2.2.2))]) (I := fun q_ => FLs q_.2.2.2 q_.2.2.1 2) 2 ((a1_, c1_, n1_, L1_)) ((by first | exact hF1.mono (by omega) | exact (hF1.snoc (by first | exact at_sz (by decide) | decide)).mono (by omega) | exact ((hF1.snoc (by first | exact at_sz (by decide) | decide)).snoc (by first | exact at_sz (by decide) | decide)).mono (by omega) | exact (((hF1.snoc (by first | exact at_sz (by decide) | decide)).snoc (by first | exact at_sz (by decide) | decide)).snoc (by first | exact at_sz (by decide) | decide)).mono (by omega))) ⟨rfl, rfl, rfl, rfl, rfl, rfl, rfl, rfl, rfl, rfl, rfl, rfl, rfl, rfl, rfl, rfl, trivial⟩ rfl
  rintro ⟨a2_, c2_, n2_, L2_⟩ hF2
  try dsimp only at *
  have hFl2 := hF2.ln.le
  refine WC.seq ?_
  refine WC.region ?_
  refine SL.pure rfl rfl rfl (PureOp.move rfl) ?_
  refine SL.pure rfl rfl rfl (PureOp.fieldAddrT 9 Try.underlying76 rfl sz73 rfl rfl) ?_
  refine SL.pure rfl rfl rfl (PureOp.load (v := .slice x.2.2.1.ao x.2.2.1.l.length x.2.2.1.cap) Try.underlying73 rfl rfl (fun _ => (CellIs.cells 0 rfl rfl))) ?_
  refine SL.calln (fun L n => FLs L n (2 * x.2.2.1.l.length)) rfl rfl rfl rfl rfl rfl callable65 (fun w hw => list_any x.2.2.1.l _ _ _ rfl hIm w (sI.below hw.below)) ?_
  intro la lc ln lL hlF
  have hlFl := hlF.ln.le
  refine SL.norm [_, _, _] rfl ?_
  refine SL.append 1 rfl rfl Try.underlying63 elem93 rfl rfl rfl rfl (SrcIs.own 2 rfl) (by exact all_one_cells (fun x => rfl) _) (by omega) (by omega) (fun ao3_ cap3_ => ?_)
  refine SL.itemxs 1 rfl (show _ = cellsOf encNF (L2_ ++ lL) from by rw [cellsOf_append]) ?_
  refine SL.norm [_, _, _] rfl ?_
  refine SL.pure rfl rfl rfl (PureOp.assign rfl) ?_
  refine SL.nil_then ?_
  refine WC.cutx (σ := Option Addr × Nat × Nat × List NF) (fun q_ => [(0, 0, .agg #[.int .i64 x.1, .int .i64 x.2.1.1, .slice x.2.1.2.1.ao x.2.1.2.1.l.length x.2.1.2.1.cap, .int .i64 x.2.1.2.2.1, .int .i64 x.2.1.2.2.2.1, .int .i64 x.2.1.2.2.2.2.1.1, .int .i64 x.2.1.2.2.2.2.1.2.1, .int .i64 x.2.1.2.2.2.2.1.2.2, .slice x.2.1.2.2.2.2.2.ao x.2.1.2.2.2.2.2.l.length x.2.1.2.2.2.2.2.cap, .slice x.2.2.1.ao x.2.2.1.l.length x.2.2.1.cap, .int .i64 x.2.2.2.1, .int .i64 x.2.2.2.2.1, .int .i64 x.2.2.2.2.2.1, .int .i64 x.2.2.2.2.2.2.1, .slice x.2.2.2.2.2.2.2.ao x.2.2.2.2.2.2.2.l.length x.2.2.2.2.2.2.2.cap]), (1, 0, .pointer (some ⟨b1, 0, none⟩)), (2, 0, .slice none 0 0), (4, 0, .int .i64 ce), (17, 0, .pointer (some ⟨b1, 1, none⟩)), (18, 0, .agg #[.int .i64 x.2.1.1, .slice x.2.1.2.1.ao x.2.1.2.1.l.length x.2.1.2.1.cap, .int .i64 x.2.1.2.2.1, .int .i64 x.2.1.2.2.2.1, .int .i64 x.2.1.2.2.2.2.1.1, .int .i64 x.2.1.2.2.2.2.1.2.1, .int .i64 x.2.1.2.2.2.2.1.2.2, .slice x.2.1.2.2.2.2.2.ao x.2.1.2.2.2.2.2.l.length x.2.1.2.2.2.2.2.cap]), (19, 0, .int .i64 ce), (27, 0, .slice a2_ n2_ c2_), (28, 0, .pointer (some ⟨b1, 9, none⟩)), (29, 0, .slice x.2.2.1.ao x.2.2.1.l.length x.2.2.1.cap), (30, 0, .slice la ln lc), (31, 0, .slice ao3_ (n2_ + ln) cap3_), (3, 0, .slice q_.1 q_.2.2.1 q_.2.1)]) (fun q_ => [Item.cells b1 [.int .i64 x.1, .int .i64 x.2.1.1, .slice x.2.1.2.1.ao x.2.1.2.1.l.length x.2.1.2.1.cap, .int .i64 x.2.1.2.2.1, .int .i64 x.2.1.2.2.2.1, .int .i64 x.2.1.2.2.2.2.1.1, .int .i64 x.2.1.2.2.2.2.1.2.1, .int .i64 x.2.1.2.2.2.2.1.2.2, .slice x.2.1.2.2.2.2.2.ao x.2.1.2.2.2.2.2.l.length x.2.1.2.2.2.2.2.cap, .slice x.2.2.1.ao x.2.2.1.l.length x.2.2.1.cap, .int .i64 x.2.2.2.1, .int .i64 x.2.2.2.2.1, .int .i64 x.2.2.2.2.2.1, .int .i64 x.2.2.2.2.2.2.1, .slice x.2.2.2.2.2.2.2.ao x.2.2.2.2.2.2.2.l.length x.2.2.2.2.2.2.2.cap] 76, Item.own w0.heap.size q_.1 q_.2.2.1 q_.2.1 93 2 (cellsOf encNF (q_.2.2.2)), Item.own w0.heap.size la ln lc 93 2 (cellsOf encNF lL)]) (fun q_ => FLs q_.2.2.2 q_.2.2.1 (3 + 2 * x.2.2.1.l.length)) ?_ ?_
  · skip
    refine WC.seq ?_
    refine WC.region ?_
    refine SL.pure rfl rfl rfl (PureOp.fieldAddrT 10 Try.underlying76 rfl sz3 rfl rfl) ?_
    refine SL.pure rfl rfl rfl (PureOp.load (v := .int .i64 x.2.2.2.1) Try.underlying3 rfl rfl (fun _ => (CellIs.cells 0 rfl rfl))) ?_
    refine SL.pure rfl rfl rfl (PureOp.lss rfl rfl) ?_
    refine SL.pure rfl rfl rfl (PureOp.move rfl) ?_
    refine SL.newg 35 false rfl ?_
    refine SL.gpure (c := 1) rfl rfl rfl rfl rfl rfl rfl (PureOp.fieldAddrT 10 Try.underlying76 rfl sz3 rfl rfl) ?_
    refine SL.gpure (c := 1) rfl rfl rfl rfl rfl rfl rfl (PureOp.load (v := .int .i64 x.2.2.2.1) Try.underlying3 rfl rfl (fun _ => (CellIs.cells 0 rfl rfl))) ?_
    refine SL.gpure (c := 1) rfl rfl rfl rfl rfl rfl rfl (PureOp.gtr rfl rfl) ?_
    refine SL.pure rfl rfl rfl (PureOp.or_ rfl rfl rfl rfl) ?_
    refine SL.pure rfl rfl rfl (PureOp.move rfl) ?_
    refine SL.newg 40 false rfl ?_
    refine SL.gpure (c := 2) rfl rfl rfl rfl rfl rfl rfl (PureOp.fieldAddrT 11 Try.underlying76 rfl sz3 rfl rfl) ?_
    refine SL.gpure (c := 2) rfl rfl rfl rfl rfl rfl rfl (PureOp.load (v := .int .i64 x.2.2.2.2.1) Try.underlying3 rfl rfl (fun _ => (CellIs.cells 0 rfl rfl))) ?_
    refine SL.gpure (c := 2) rfl rfl rfl rfl rfl rfl rfl (PureOp.lss rfl rfl) ?_
    refine SL.pure rfl rfl rfl (PureOp.or_ rfl rfl rfl rfl) ?_
    refine SL.pure rfl rfl rfl (PureOp.move rfl) ?_
    refine SL.newg 45 false rfl ?_
    refine SL.gpure (c := 3) rfl rfl rfl rfl rfl rfl rfl (PureOp.fieldAddrT 11 Try.underlying76 rfl sz3 rfl rfl) ?_
    refine SL.gpure (c := 3) rfl rfl rfl rfl rfl rfl rfl (PureOp.load (v := .int .i64 x.2.2.2.2.1) Try.underlying3 rfl rfl (fun _ => (CellIs.cells 0 rfl rfl))) ?_
    refine SL.gpure (c := 3) rfl rfl rfl rfl rfl rfl rfl (PureOp.gtr rfl rfl) ?_
    refine SL.pure rfl rfl rfl (PureOp.or_ rfl rfl rfl rfl) ?_
    refine SL.nil_then ?_
    refine WC.cond rfl (fun h3 => ?_) (fun h3 => ?_)
    · try simp only [Bool.and_eq_true, Bool.or_eq_true, Bool.not_eq_true', Bool.not_eq_false', Bool.and_eq_false_iff, Bool.or_eq_false_iff, decide_eq_true_eq, decide_eq_false_iff_not, Int.not_lt, Int.not_le, ne_eq, Decidable.not_not] at h3
      refine WC.region ?_
      refine SL.pure rfl rfl rfl (PureOp.move rfl) ?_
      refine SL.pure rfl rfl rfl (PureOp.build bld93 rfl rfl) ?_
      refine SL.buildSlice rfl rfl Try.underlying63 elem93 rfl rfl rfl rfl (fun b4 hb4 => ?_)
      refine SL.norm [_, _, _, _] rfl ?_
      refine SL.append 1 rfl rfl Try.underlying63 elem93 rfl rfl rfl rfl (SrcIs.own 3 rfl) (by rfl) (by omega) (by omega) (fun ao4_ cap4_ => ?_)
      refine SL.itemxs 1 rfl (show _ = cellsOf encNF ((L2_ ++ lL) ++ [((2 : Int), ((⟨#[115, 116, 97, 121]⟩) : ByteArray))]) from by rw [cellsOf_append (l := (L2_ ++ lL)), cellsOf_one]; rfl) ?_
      refine SL.norm [_, _, _, _] rfl ?_
      refine SL.pure rfl rfl rfl (PureOp.assign rfl) ?_
      refine SL.nil ?_
      refine QX.cutx (σ := Option Addr × Nat × Nat × List NF) (E' := fun q_ => [(0, 0, .agg #[.int .i64 x.1, .int .i64 x.2.1.1, .slice x.2.1.2.1.ao x.2.1.2.1.l.length x.2.1.2.1.cap, .int .i64 x.2.1.2.2.1, .int .i64 x.2.1.2.2.2.1, .int .i64 x.2.1.2.2.2.2.1.1, .int .i64 x.2.1.2.2.2.2.1.2.1, .int .i64 x.2.1.2.2.2.2.1.2.2, .slice x.2.1.2.2.2.2.2.ao x.2.1.2.2.2.2.2.l.length x.2.1.2.2.2.2.2.cap, .slice x.2.2.1.ao x.2.2.1.l.length x.2.2.1.cap, .int .i64 x.2.2.2.1, .int .i64 x.2.2.2.2.1, .int .i64 x.2.2.2.2.2.1, .int .i64 x.2.2.2.2.2.2.1, .slice x.2.2.2.2.2.2.2.ao x.2.2.2.2.2.2.2.l.length x.2.2.2.2.2.2.2.cap]), (1, 0, .pointer (some ⟨b1, 0, none⟩)), (2, 0, .slice none 0 0), (4, 0, .int .i64 ce), (17, 0, .pointer (some ⟨b1, 1, none⟩)), (18, 0, .agg #[.int .i64 x.2.1.1, .slice x.2.1.2.1.ao x.2.1.2.1.l.length x.2.1.2.1.cap, .int .i64 x.2.1.2.2.1, .int .i64 x.2.1.2.2.2.1, .int .i64 x.2.1.2.2.2.2.1.1, .int .i64 x.2.1.2.2.2.2.1.2.1, .int .i64 x.2.1.2.2.2.2.1.2.2, .slice x.2.1.2.2.2.2.2.ao x.2.1.2.2.2.2.2.l.length x.2.1.2.2.2.2.2.cap]), (19, 0, .int .i64 ce), (27, 0, .slice a2_ n2_ c2_), (28, 0, .pointer (some ⟨b1, 9, none⟩)), (29, 0, .slice x.2.2.1.ao x.2.2.1.l.length x.2.2.1.cap), (30, 0, .slice la ln lc), (31, 0, .slice ao3_ (n2_ + ln) cap3_), (3, 0, .slice q_.1 q_.2.2.1 q_.2.1)]) (H' := fun q_ => [Item.cells b1 [.int .i64 x.1, .int .i64 x.2.1.1, .slice x.2.1.2.1.ao x.2.1.2.1.l.length x.2.1.2.1.cap, .int .i64 x.2.1.2.2.1, .int .i64 x.2.1.2.2.2.1, .int .i64 x.2.1.2.2.2.2.1.1, .int .i64 x.2.1.2.2.2.2.1.2.1, .int .i64 x.2.1.2.2.2.2.1.2.2, .slice x.2.1.2.2.2.2.2.ao x.2.1.2.2.2.2.2.l.length x.2.1.2.2.2.2.2.cap, .slice x.2.2.1.ao x.2.2.1.l.length x.2.2.1.cap, .int .i64 x.2.2.2.1, .int .i64 x.2.2.2.2.1, .int .i64 x.2.2.2.2.2.1, .int .i64 x.2.2.2.2.2.2.1, .slice x.2.2.2.2.2.2.2.ao x.2.2.2.2.2.2.2.l.length x.2.2.2.2.2.2.2.cap] 76, Item.own w0.heap.size q_.1 q_.2.2.1 q_.2.1 93 2 (cellsOf encNF (q_.2.2.2)), Item.own w0.heap.size la ln lc 93 2 (cellsOf encNF lL)]) (I := fun q_ => FLs q_.2.2.2 q_.2.2.1 (3 + 2 * x.2.2.1.l.length)) 3 ((ao4_, cap4_, (n2_ + ln) + 1, (L2_ ++ lL) ++ [((2 : Int), ((⟨#[115, 116, 97, 121]⟩) : ByteArray))])) ((by first | exact (hF2.app hlF).mono (by omega) | exact ((hF2.app hlF).snoc (by first | exact at_sz (by decide) | decide)).mono (by omega) | exact (((hF2.app hlF).snoc (by first | exact at_sz (by decide) | decide)).snoc (by first | exact at_sz (by decide) | decide)).mono (by omega) | exact ((((hF2.app hlF).snoc (by first | exact at_sz (by decide) | decide)).snoc (by first | exact at_sz (by decide) | decide)).snoc (by first | exact at_sz (by decide) | decide)).mono (by omega))) ⟨rfl, rfl, rfl, rfl, rfl, rfl, rfl, rfl, rfl, rfl, rfl, rfl, rfl, rfl, rfl, rfl, rfl, rfl, rfl, rfl, rfl, rfl, rfl, rfl, rfl, rfl, trivial⟩ rfl
    · try simp only [Bool.and_eq_true, Bool.or_eq_true, Bool.not_eq_true', Bool.not_eq_false', Bool.and_eq_false_iff, Bool.or_eq_false_iff, decide_eq_true_eq, decide_eq_false_iff_not, Int.not_lt, Int.not_le, ne_eq, Decidable.not_not] at h3
      refine WC.skip ?_
      refine QX.cutx (σ := Option Addr × Nat × Nat × List NF) (E' := fun q_ => [(0, 0, .agg #[.int .i64 x.1, .int .i64 x.2.1.1, .slice x.2.1.2.1.ao x.2.1.2.1.l.length x.2.1.2.1.cap, .int .i64 x.2.1.2.2.1, .int .i64 x.2.1.2.2.2.1, .int .i64 x.2.1.2.2.2.2.1.1, .int .i64 x.2.1.2.2.2.2.1.2.1, .int .i64 x.2.1.2.2.2.2.1.2.2, .slice x.2.1.2.2.2.2.2.ao x.2.1.2.2.2.2.2.l.length x.2.1.2.2.2.2.2.cap, .slice x.2.2.1.ao x.2.2.1.l.length x.2.2.1.cap, .int .i64 x.2.2.2.1, .int .i64 x.2.2.2.2.1, .int .i64 x.2.2.2.2.2.1, .int .i64 x.2.2.2.2.2.2.1, .slice x.2.2.2.2.2.2.2.ao x.2.2.2.2.2.2.2.l.length x.2.2.2.2.2.2.2.cap]), (1, 0, .pointer (some ⟨b1, 0, none⟩)), (2, 0, .slice none 0 0), (4, 0, .int .i64 ce), (17, 0, .pointer (some ⟨b1, 1, none⟩)), (18, 0, .agg #[.int .i64 x.2.1.1, .slice x.2.1.2.1.ao x.2.1.2.1.l.length x.2.1.2.1.cap, .int .i64 x.2.1.2.2.1, .int .i64 x.2.1.2.2.2.1, .int .i64 x.2.1.2.2.2.2.1.1, .int .i64 x.2.1.2.2.2.2.1.2.1, .int .i64 x.2.1.2.2.2.2.1.2.2, .slice x.2.1.2.2.2.2.2.ao x.2.1.2.2.2.2.2.l.length x.2.1.2.2.2.2.2.cap]), (19, 0, .int .i64 ce), (27, 0, .slice a2_ n2_ c2_), (28, 0, .pointer (some ⟨b1, 9, none⟩)), (29, 0, .slice x.2.2.1.ao x.2.2.1.l.length x.2.2.1.cap), (30, 0, .slice la ln lc), (31, 0, .slice ao3_ (n2_ + ln) cap3_), (3, 0, .slice q_.1 q_.2.2.1 q_.2.1)]) (H' := fun q_ => [Item.cells b1 [.int .i64 x.1, .int .i64 x.2.1.1, .slice x.2.1.2.1.ao x.2.1.2.1.l.length x.2.1.2.1.cap, .int .i64 x.2.1.2.2.1, .int .i64 x.2.1.2.2.2.1, .int .i64 x.2.1.2.2.2.2.1.1, .int .i64 x.2.1.2.2.2.2.1.2.1, .int .i64 x.2.1.2.2.2.2.1.2.2, .slice x.2.1.2.2.2.2.2.ao x.2.1.2.2.2.2.2.l.length x.2.1.2.2.2.2.2.cap, .slice x.2.2.1.ao x.2.2.1.l.length x.2.2.1.cap, .int .i64 x.2.2.2.1, .int .i64 x.2.2.2.2.1, .int .i64 x.2.2.2.2.2.1, .int .i64 x.2.2.2.2.2.2.1, .slice x.2.2.2.2.2.2.2.ao x.2.2.2.2.2.2.2.l.length x.2.2.2.2.2.2.2.cap] 76, Item.own w0.heap.size q_.1 q_.2.2.1 q_.2.1 93 2 (cellsOf encNF (q_.2.2.2)), Item.own w0.heap.size la ln lc 93 2 (cellsOf encNF lL)]) (I := fun q_ => FLs q_.2.2.2 q_.2.2.1 (3 + 2 * x.2.2.1.l.length)) 3 ((ao3_, cap3_, n2_ + ln, L2_ ++ lL)) ((by first | exact (hF2.app hlF).mono (by omega) | exact ((hF2.app hlF).snoc (by first | exact at_sz (by decide) | decide)).mono (by omega) | exact (((hF2.app hlF).snoc (by first | exact at_sz (by decide) | decide)).snoc (by first | exact at_sz (by decide) | decide)).mono (by omega) | exact ((((hF2.app hlF).snoc (by first | exact at_sz (by decide) | decide)).snoc (by first | exact at_sz (by decide) | decide)).snoc (by first | exact at_sz (by decide) | decide)).mono (by omega))) ⟨rfl, rfl, rfl, rfl, rfl, rfl, rfl, rfl, rfl, rfl, rfl, rfl, rfl, rfl, rfl, rfl, rfl, rfl, rfl, rfl, rfl, rfl, rfl, rfl, rfl, rfl, trivial⟩ rfl
  rintro ⟨a3_, c3_, n3_, L3_⟩ hF3
  try dsimp only at *
  have hFl3 := hF3.ln.le
  refine WC.cutx (σ := Option Addr × Nat × Nat × List NF) (fun q_ => [(0, 0, .agg #[.int .i64 x.1, .int .i64 x.2.1.1, .slice x.2.1.2.1.ao x.2.1.2.1.l.length x.2.1.2.1.cap, .int .i64 x.2.1.2.2.1, .int .i64 x.2.1.2.2.2.1, .int .i64 x.2.1.2.2.2.2.1.1, .int .i64 x.2.1.2.2.2.2.1.2.1, .int .i64 x.2.1.2.2.2.2.1.2.2, .slice x.2.1.2.2.2.2.2.ao x.2.1.2.2.2.2.2.l.length x.2.1.2.2.2.2.2.cap, .slice x.2.2.1.ao x.2.2.1.l.length x.2.2.1.cap, .int .i64 x.2.2.2.1, .int .i64 x.2.2.2.2.1, .int .i64 x.2.2.2.2.2.1, .int .i64 x.2.2.2.2.2.2.1, .slice x.2.2.2.2.2.2.2.ao x.2.2.2.2.2.2.2.l.length x.2.2.2.2.2.2.2.cap]), (1, 0, .pointer (some ⟨b1, 0, none⟩)), (2, 0, .slice none 0 0), (4, 0, .int .i64 ce), (17, 0, .pointer (some ⟨b1, 1, none⟩)), (18, 0, .agg #[.int .i64 x.2.1.1, .slice x.2.1.2.1.ao x.2.1.2.1.l.length x.2.1.2.1.cap, .int .i64 x.2.1.2.2.1, .int .i64 x.2.1.2.2.2.1, .int .i64 x.2.1.2.2.2.2.1.1, .int .i64 x.2.1.2.2.2.2.1.2.1, .int .i64 x.2.1.2.2.2.2.1.2.2, .slice x.2.1.2.2.2.2.2.ao x.2.1.2.2.2.2.2.l.length x.2.1.2.2.2.2.2.cap]), (19, 0, .int .i64 ce), (27, 0, .slice a2_ n2_ c2_), (28, 0, .pointer (some ⟨b1, 9, none⟩)), (29, 0, .slice x.2.2.1.ao x.2.2.1.l.length x.2.2.1.cap), (30, 0, .slice la ln lc), (31, 0, .slice ao3_ (n2_ + ln) cap3_), (3, 0, .slice q_.1 q_.2.2.1 q_.2.1)]) (fun q_ => [Item.cells b1 [.int .i64 x.1, .int .i64 x.2.1.1, .slice x.2.1.2.1.ao x.2.1.2.1.l.length x.2.1.2.1.cap, .int .i64 x.2.1.2.2.1, .int .i64 x.2.1.2.2.2.1, .int .i64 x.2.1.2.2.2.2.1.1, .int .i64 x.2.1.2.2.2.2.1.2.1, .int .i64 x.2.1.2.2.2.2.1.2.2, .slice x.2.1.2.2.2.2.2.ao x.2.1.2.2.2.2.2.l.length x.2.1.2.2.2.2.2.cap, .slice x.2.2.1.ao x.2.2.1.l.length x.2.2.1.cap, .int .i64 x.2.2.2.1, .int .i64 x.2.2.2.2.1, .int .i64 x.2.2.2.2.2.1, .int .i64 x.2.2.2.2.2.2.1, .slice x.2.2.2.2.2.2.2.ao x.2.2.2.2.2.2.2.l.length x.2.2.2.2.2.2.2.cap] 76, Item.own w0.heap.size q_.1 q_.2.2.1 q_.2.1 93 2 (cellsOf encNF (q_.2.2.2)), Item.own w0.heap.size la ln lc 93 2 (cellsOf encNF lL)]) (fun q_ => FLs q_.2.2.2 q_.2.2.1 (4 + 2 * x.2.2.1.l.length)) ?_ ?_
  · skip
    refine WC.seq ?_
    refine WC.region ?_
    refine SL.pure rfl rfl rfl (PureOp.fieldAddrT 11 Try.underlying76 rfl sz3 rfl rfl) ?_
    refine SL.pure rfl rfl rfl (PureOp.load (v := .int .i64 x.2.2.2.2.1) Try.underlying3 rfl rfl (fun _ => (CellIs.cells 0 rfl rfl))) ?_
    refine SL.pure rfl rfl rfl (PureOp.gtr rfl rfl) ?_
    refine SL.pure rfl rfl rfl (PureOp.move rfl) ?_
    refine SL.newg 57 true rfl ?_
    refine SL.gpure (c := 1) rfl rfl rfl rfl rfl rfl rfl (PureOp.fieldAddrT 11 Try.underlying76 rfl sz3 rfl rfl) ?_
    refine SL.gpure (c := 1) rfl rfl rfl rfl rfl rfl rfl (PureOp.load (v := .int .i64 x.2.2.2.2.1) Try.underlying3 rfl rfl (fun _ => (CellIs.cells 0 rfl rfl))) ?_
    refine SL.gpure (c := 1) rfl rfl rfl rfl rfl rfl rfl (PureOp.fieldAddrT 10 Try.underlying76 rfl sz3 rfl rfl) ?_
    refine SL.gpure (c := 1) rfl rfl rfl rfl rfl rfl rfl (PureOp.load (v := .int .i64 x.2.2.2.1) Try.underlying3 rfl rfl (fun _ => (CellIs.cells 0 rfl rfl))) ?_
    refine SL.gpure (c := 1) rfl rfl rfl rfl rfl rfl rfl (PureOp.lss rfl rfl) ?_
    refine SL.pure rfl rfl rfl (PureOp.and_ rfl rfl rfl rfl) ?_
    refine SL.nil_then ?_
    refine WC.cond rfl (fun h4 => ?_) (fun h4 => ?_)
    · try simp only [Bool.and_eq_true, Bool.or_eq_true, Bool.not_eq_true', Bool.not_eq_false', Bool.and_eq_false_iff, Bool.or_eq_false_iff, decide_eq_true_eq, decide_eq_false_iff_not, Int.not_lt, Int.not_le, ne_eq, Decidable.not_not] at h4
      refine WC.region ?_
      refine SL.pure rfl rfl rfl (PureOp.move rfl) ?_
      refine SL.pure rfl rfl rfl (PureOp.build bld93 rfl rfl) ?_
      refine SL.buildSlice rfl rfl Try.underlying63 elem93 rfl rfl rfl rfl (fun b5 hb5 => ?_)
      refine SL.norm [_, _, _, _] rfl ?_
      refine SL.append 1 rfl rfl Try.underlying63 elem93 rfl rfl rfl rfl (SrcIs.own 3 rfl) (by rfl) (by omega) (by omega) (fun ao5_ cap5_ => ?_)
      refine SL.itemxs 1 rfl (show _ = cellsOf encNF (L3_ ++ [((24 : Int), ((⟨#[115, 116, 97, 121]⟩) : ByteArray))]) from by rw [cellsOf_append (l := L3_), cellsOf_one]; rfl) ?_
      refine SL.norm [_, _, _, _] rfl ?_
      refine SL.pure rfl rfl rfl (PureOp.assign rfl) ?_
      refine SL.nil ?_
      refine QX.cutx (σ := Option Addr × Nat × Nat × List NF) (E' := fun q_ => [(0, 0, .agg #[.int .i64 x.1, .int .i64 x.2.1.1, .slice x.2.1.2.1.ao x.2.1.2.1.l.length x.2.1.2.1.cap, .int .i64 x.2.1.2.2.1, .int .i64 x.2.1.2.2.2.1, .int .i64 x.2.1.2.2.2.2.1.1, .int .i64 x.2.1.2.2.2.2.1.2.1, .int .i64 x.2.1.2.2.2.2.1.2.2, .slice x.2.1.2.2.2.2.2.ao x.2.1.2.2.2.2.2.l.length x.2.1.2.2.2.2.2.cap, .slice x.2.2.1.ao x.2.2.1.l.length x.2.2.1.cap, .int .i64 x.2.2.2.1, .int .i64 x.2.2.2.2.1, .int .i64 x.2.2.2.2.2.1, .int .i64 x.2.2.2.2.2.2.1, .slice x.2.2.2.2.2.2.2.ao x.2.2.2.2.2.2.2.l.length x.2.2.2.2.2.2.2.cap]), (1, 0, .pointer (some ⟨b1, 0, none⟩)), (2, 0, .slice none 0 0), (4, 0, .int .i64 ce), (17, 0, .pointer (some ⟨b1, 1, none⟩)), (18, 0, .agg #[.int .i64 x.2.1.1, .slice x.2.1.2.1.ao x.2.1.2.1.l.length x.2.1.2.1.cap, .int .i64 x.2.1.2.2.1, .int .i64 x.2.1.2.2.2.1, .int .i64 x.2.1.2.2.2.2.1.1, .int .i64 x.2.1.2.2.2.2.1.2.1, .int .i64 x.2.1.2.2.2.2.1.2.2, .slice x.2.1.2.2.2.2.2.ao x.2.1.2.2.2.2.2.l.length x.2.1.2.2.2.2.2.cap]), (19, 0, .int .i64 ce), (27, 0, .slice a2_ n2_ c2_), (28, 0, .pointer (some ⟨b1, 9, none⟩)), (29, 0, .slice x.2.2.1.ao x.2.2.1.l.length x.2.2.1.cap), (30, 0, .slice la ln lc), (31, 0, .slice ao3_ (n2_ + ln) cap3_), (3, 0, .slice q_.1 q_.2.2.1 q_.2.1)]) (H' := fun q_ => [Item.cells b1 [.int .i64 x.1, .int .i64 x.2.1.1, .slice x.2.1.2.1.ao x.2.1.2.1.l.length x.2.1.2.1.cap, .int .i64 x.2.1.2.2.1, .int .i64 x.2.1.2.2.2.1, .int .i64 x.2.1.2.2.2.2.1.1, .int .i64 x.2.1.2.2.2.2.1.2.1, .int .i64 x.2.1.2.2.2.2.1.2.2, .slice x.2.1.2.2.2.2.2.ao x.2.1.2.2.2.2.2.l.length x.2.1.2.2.2.2.2.cap, .slice x.2.2.1.ao x.2.2.1.l.length x.2.2.1.cap, .int .i64 x.2.2.2.1, .int .i64 x.2.2.2.2.1, .int .i64 x.2.2.2.2.2.1, .int .i64 x.2.2.2.2.2.2.1, .slice x.2.2.2.2.2.2.2.ao x.2.2.2.2.2.2.2.l.length x.2.2.2.2.2.2.2.cap] 76, Item.own w0.heap.size q_.1 q_.2.2.1 q_.2.1 93 2 (cellsOf encNF (q_.2.2.2)), Item.own w0.heap.size la ln lc 93 2 (cellsOf encNF lL)]) (I := fun q_ => FLs q_.2.2.2 q_.2.2.1 (4 + 2 * x.2.2.1.l.length)) 3 ((ao5_, cap5_, n3_ + 1, L3_ ++ [((24 : Int), ((⟨#[115, 116, 97, 121]⟩) : ByteArray))])) ((by first | exact hF3.mono (by omega) | exact (hF3.snoc (by first | exact at_sz (by decide) | decide)).mono (by omega) | exact ((hF3.snoc (by first | exact at_sz (by decide) | decide)).snoc (by first | exact at_sz (by decide) | decide)).mono (by omega) | exact (((hF3.snoc (by first | exact at_sz (by decide) | decide)).snoc (by first | exact at_sz (by decide) | decide)).snoc (by first | exact at_sz (by decide) | decide)).mono (by omega))) ⟨rfl, rfl, rfl, rfl, rfl, rfl, rfl, rfl, rfl, rfl, rfl, rfl, rfl, rfl, rfl, rfl, rfl, rfl, rfl, rfl, rfl, rfl, rfl, rfl, rfl, rfl, trivial⟩ rfl
    · try simp only [Bool.and_eq_true, Bool.or_eq_true, Bool.not_eq_true', Bool.not_eq_false', Bool.and_eq_false_iff, Bool.or_eq_false_iff, decide_eq_true_eq, decide_eq_false_iff_not, Int.not_lt, Int.not_le, ne_eq, Decidable.not_not] at h4
      refine WC.skip ?_
      refine QX.cutx (σ := Option Addr × Nat × Nat × List NF) (E' := fun q_ => [(0, 0, .agg #[.int .i64 x.1, .int .i64 x.2.1.1, .slice x.2.1.2.1.ao x.2.1.2.1.l.length x.2.1.2.1.cap, .int .i64 x.2.1.2.2.1, .int .i64 x.2.1.2.2.2.1, .int .i64 x.2.1.2.2.2.2.1.1, .int .i64 x.2.1.2.2.2.2.1.2.1, .int .i64 x.2.1.2.2.2.2.1.2.2, .slice x.2.1.2.2.2.2.2.ao x.2.1.2.2.2.2.2.l.length x.2.1.2.2.2.2.2.cap, .slice x.2.2.1.ao x.2.2.1.l.length x.2.2.1.cap, .int .i64 x.2.2.2.1, .int .i64 x.2.2.2.2.1, .int .i64 x.2.2.2.2.2.1, .int .i64 x.2.2.2.2.2.2.1, .slice x.2.2.2.2.2.2.2.ao x.2.2.2.2.2.2.2.l.length x.2.2.2.2.2.2.2.cap]), (1, 0, .pointer (some ⟨b1, 0, none⟩)), (2, 0, .slice none 0 0), (4, 0, .int .i64 ce), (17, 0, .pointer (some ⟨b1, 1, none⟩)), (18, 0, .agg #[.int .i64 x.2.1.1, .slice x.2.1.2.1.ao x.2.1.2.1.l.length x.2.1.2.1.cap, .int .i64 x.2.1.2.2.1, .int .i64 x.2.1.2.2.2.1, .int .i64 x.2.1.2.2.2.2.1.1, .int .i64 x.2.1.2.2.2.2.1.2.1, .int .i64 x.2.1.2.2.2.2.1.2.2, .slice x.2.1.2.2.2.2.2.ao x.2.1.2.2.2.2.2.l.length x.2.1.2.2.2.2.2.cap]), (19, 0, .int .i64 ce), (27, 0, .slice a2_ n2_ c2_), (28, 0, .pointer (some ⟨b1, 9, none⟩)), (29, 0, .slice x.2.2.1.ao x.2.2.1.l.length x.2.2.1.cap), (30, 0, .slice la ln lc), (31, 0, .slice ao3_ (n2_ + ln) cap3_), (3, 0, .slice q_.1 q_.2.2.1 q_.2.1)]) (H' := fun q_ => [Item.cells b1 [.int .i64 x.1, .int .i64 x.2.1.1, .slice x.2.1.2.1.ao x.2.1.2.1.l.length x.2.1.2.1.cap, .int .i64 x.2.1.2.2.1, .int .i64 x.2.1.2.2.2.1, .int .i64 x.2.1.2.2.2.2.1.1, .int .i64 x.2.1.2.2.2.2.1.2.1, .int .i64 x.2.1.2.2.2.2.1.2.2, .slice x.2.1.2.2.2.2.2.ao x.2.1.2.2.2.2.2.l.length x.2.1.2.2.2.2.2.cap, .slice x.2.2.1.ao x.2.2.1.l.length x.2.2.1.cap, .int .i64 x.2.2.2.1, .int .i64 x.2.2.2.2.1, .int .i64 x.2.2.2.2.2.1, .int .i64 x.2.2.2.2.2.2.1, .slice x.2.2.2.2.2.2.2.ao x.2.2.2.2.2.2.2.l.length x.2.2.2.2.2.2.2.cap] 76, Item.own w0.heap.size q_.1 q_.2.2.1 q_.2.1 93 2 (cellsOf encNF (q_.2.2.2)), Item.own w0.heap.size la ln lc 93 2 (cellsOf encNF lL)]) (I := fun q_ => FLs q_.2.2.2 q_.2.2.1 (4 + 2 * x.2.2.1.l.length)) 3 ((a3_, c3_, n3_, L3_)) ((by first | exact hF3.mono (by omega) | exact (hF3.snoc (by first | exact at_sz (by decide) | decide)).mono (by omega) | exact ((hF3.snoc (by first | exact at_sz (by decide) | decide)).snoc (by first | exact at_sz (by decide) | decide)).mono (by omega) | exact (((hF3.snoc (by first | exact at_sz (by decide) | decide)).snoc (by first | exact at_sz (by decide) | decide)).snoc (by first | exact at_sz (by decide) | decide)).mono (by omega))) ⟨rfl, rfl, rfl, rfl, rfl, rfl, rfl, rfl, rfl, rfl, rfl, rfl, rfl, rfl, rfl, rfl, rfl, rfl, rfl, rfl, rfl, rfl, rfl, rfl, rfl, rfl, trivial⟩ rfl
  rintro ⟨a4_, c4_, n4_, L4_⟩ hF4
  try dsimp only at *
  have hFl4 := hF4.ln.le
  refine WC.cutx (σ := Option Addr × Nat × Nat × List NF) (fun q_ => [(0, 0, .agg #[.int .i64 x.1, .int .i64 x.2.1.1, .slice x.2.1.2.1.ao x.2.1.2.1.l.length x.2.1.2.1.cap, .int .i64 x.2.1.2.2.1, .int .i64 x.2.1.2.2.2.1, .int .i64 x.2.1.2.2.2.2.1.1, .int .i64 x.2.1.2.2.2.2.1.2.1, .int .i64 x.2.1.2.2.2.2.1.2.2, .slice x.2.1.2.2.2.2.2.ao x.2.1.2.2.2.2.2.l.length x.2.1.2.2.2.2.2.cap, .slice x.2.2.1.ao x.2.2.1.l.length x.2.2.1.cap, .int .i64 x.2.2.2.1, .int .i64 x.2.2.2.2.1, .int .i64 x.2.2.2.2.2.1, .int .i64 x.2.2.2.2.2.2.1, .slice x.2.2.2.2.2.2.2.ao x.2.2.2.2.2.2.2.l.length x.2.2.2.2.2.2.2.cap]), (1, 0, .pointer (some ⟨b1, 0, none⟩)), (2, 0, .slice none 0 0), (4, 0, .int .i64 ce), (17, 0, .pointer (some ⟨b1, 1, none⟩)), (18, 0, .agg #[.int .i64 x.2.1.1, .slice x.2.1.2.1.ao x.2.1.2.1.l.length x.2.1.2.1.cap, .int .i64 x.2.1.2.2.1, .int .i64 x.2.1.2.2.2.1, .int .i64 x.2.1.2.2.2.2.1.1, .int .i64 x.2.1.2.2.2.2.1.2.1, .int .i64 x.2.1.2.2.2.2.1.2.2, .slice x.2.1.2.2.2.2.2.ao x.2.1.2.2.2.2.2.l.length x.2.1.2.2.2.2.2.cap]), (19, 0, .int .i64 ce), (27, 0, .slice a2_ n2_ c2_), (28, 0, .pointer (some ⟨b1, 9, none⟩)), (29, 0, .slice x.2.2.1.ao x.2.2.1.l.length x.2.2.1.cap), (30, 0, .slice la ln lc), (31, 0, .slice ao3_ (n2_ + ln) cap3_), (3, 0, .slice q_.1 q_.2.2.1 q_.2.1)]) (fun q_ => [Item.cells b1 [.int .i64 x.1, .int .i64 x.2.1.1, .slice x.2.1.2.1.ao x.2.1.2.1.l.length x.2.1.2.1.cap, .int .i64 x.2.1.2.2.1, .int .i64 x.2.1.2.2.2.1, .int .i64 x.2.1.2.2.2.2.1.1, .int .i64 x.2.1.2.2.2.2.1.2.1, .int .i64 x.2.1.2.2.2.2.1.2.2, .slice x.2.1.2.2.2.2.2.ao x.2.1.2.2.2.2.2.l.length x.2.1.2.2.2.2.2.cap, .slice x.2.2.1.ao x.2.2.1.l.length x.2.2.1.cap, .int .i64 x.2.2.2.1, .int .i64 x.2.2.2.2.1, .int .i64 x.2.2.2.2.2.1, .int .i64 x.2.2.2.2.2.2.1, .slice x.2.2.2.2.2.2.2.ao x.2.2.2.2.2.2.2.l.length x.2.2.2.2.2.2.2.cap] 76, Item.own w0.heap.size q_.1 q_.2.2.1 q_.2.1 93 2 (cellsOf encNF (q_.2.2.2)), Item.own w0.heap.size la ln lc 93 2 (cellsOf encNF lL)]) (fun q_ => FLs q_.2.2.2 q_.2.2.1 (5 + 2 * x.2.2.1.l.length)) ?_ ?_
  · skip
    refine WC.seq ?_
    refine WC.region ?_
    refine SL.pure rfl rfl rfl (PureOp.fieldAddrT 12 Try.underlying76 rfl sz3 rfl rfl) ?_
    refine SL.pure rfl rfl rfl (PureOp.load (v := .int .i64 x.2.2.2.2.2.1) Try.underlying3 rfl rfl (fun _ => (CellIs.cells 0 rfl rfl))) ?_
    refine SL.pure rfl rfl rfl (PureOp.lss rfl rfl) ?_
    refine SL.pure rfl rfl rfl (PureOp.move rfl) ?_
    refine SL.newg 71 false rfl ?_
    refine SL.gpure (c := 1) rfl rfl rfl rfl rfl rfl rfl (PureOp.fieldAddrT 12 Try.underlying76 rfl sz3 rfl rfl) ?_
    refine SL.gpure (c := 1) rfl rfl rfl rfl rfl rfl rfl (PureOp.load (v := .int .i64 x.2.2.2.2.2.1) Try.underlying3 rfl rfl (fun _ => (CellIs.cells 0 rfl rfl))) ?_
    refine SL.gpure (c := 1) rfl rfl rfl rfl rfl rfl rfl (PureOp.gtr rfl rfl) ?_
    refine SL.pure rfl rfl rfl (PureOp.or_ rfl rfl rfl rfl) ?_
    refine SL.pure rfl rfl rfl (PureOp.move rfl) ?_
    refine SL.newg 76 false rfl ?_
    refine SL.gpure (c := 2) rfl rfl rfl rfl rfl rfl rfl (PureOp.fieldAddrT 13 Try.underlying76 rfl sz3 rfl rfl) ?_
    refine SL.gpure (c := 2) rfl rfl rfl rfl rfl rfl rfl (PureOp.load (v := .int .i64 x.2.2.2.2.2.2.1) Try.underlying3 rfl rfl (fun _ => (CellIs.cells 0 rfl rfl))) ?_
    refine SL.gpure (c := 2) rfl rfl rfl rfl rfl rfl rfl (PureOp.lss rfl rfl) ?_
    refine SL.pure rfl rfl rfl (PureOp.or_ rfl rfl rfl rfl) ?_
    refine SL.pure rfl rfl rfl (PureOp.move rfl) ?_
    refine SL.newg 81 false rfl ?_
    refine SL.gpure (c := 3) rfl rfl rfl rfl rfl rfl rfl (PureOp.fieldAddrT 13 Try.underlying76 rfl sz3 rfl rfl) ?_
    refine SL.gpure (c := 3) rfl rfl rfl rfl rfl rfl rfl (PureOp.load (v := .int .i64 x.2.2.2.2.2.2.1) Try.underlying3 rfl rfl (fun _ => (CellIs.cells 0 rfl rfl))) ?_
    refine SL.gpure (c := 3) rfl rfl rfl rfl rfl rfl rfl (PureOp.gtr rfl rfl) ?_
    refine SL.pure rfl rfl rfl (PureOp.or_ rfl rfl rfl rfl) ?_
    refine SL.nil_then ?_
    refine WC.cond rfl (fun h5 => ?_) (fun h5 => ?_)
    · try simp only [Bool.and_eq_true, Bool.or_eq_true, Bool.not_eq_true', Bool.not_eq_false', Bool.and_eq_false_iff, Bool.or_eq_false_iff, decide_eq_true_eq, decide_eq_false_iff_not, Int.not_lt, Int.not_le, ne_eq, Decidable.not_not] at h5
      refine WC.region ?_
      refine SL.pure rfl rfl rfl (PureOp.move rfl) ?_
      refine SL.pure rfl rfl rfl (PureOp.build bld93 rfl rfl) ?_
      refine SL.buildSlice rfl rfl Try.underlying63 elem93 rfl rfl rfl rfl (fun b6 hb6 => ?_)
      refine SL.norm [_, _, _, _] rfl ?_
      refine SL.append 1 rfl rfl Try.underlying63 elem93 rfl rfl rfl rfl (SrcIs.own 3 rfl) (by rfl) (by omega) (by omega) (fun ao6_ cap6_ => ?_)
      refine SL.itemxs 1 rfl (show _ = cellsOf encNF (L4_ ++ [((2 : Int), ((⟨#[102, 101, 101, 115]⟩) : ByteArray))]) from by rw [cellsOf_append (l := L4_), cellsOf_one]; rfl) ?_
      refine SL.norm [_, _, _, _] rfl ?_
      refine SL.pure rfl rfl rfl (PureOp.assign rfl) ?_
      refine SL.nil ?_
      refine QX.cutx (σ := Option Addr × Nat × Nat × List NF) (E' := fun q_ => [(0, 0, .agg #[.int .i64 x.1, .int .i64 x.2.1.1, .slice x.2.1.2.1.ao x.2.1.2.1.l.length x.2.1.2.1.cap, .int .i64 x.2.1.2.2.1, .int .i64 x.2.1.2.2.2.1, .int .i64 x.2.1.2.2.2.2.1.1, .int .i64 x.2.1.2.2.2.2.1.2.1, .int .i64 x.2.1.2.2.2.2.1.2.2, .slice x.2.1.2.2.2.2.2.ao x.2.1.2.2.2.2.2.l.length x.2.1.2.2.2.2.2.cap, .slice x.2.2.1.ao x.2.2.1.l.length x.2.2.1.cap, .int .i64 x.2.2.2.1, .int .i64 x.2.2.2.2.1, .int .i64 x.2.2.2.2.2.1, .int .i64 x.2.2.2.2.2.2.1, .slice x.2.2.2.2.2.2.2.ao x.2.2.2.2.2.2.2.l.length x.2.2.2.2.2.2.2.cap]), (1, 0, .pointer (some ⟨b1, 0, none⟩)), (2, 0, .slice none 0 0), (4, 0, .int .i64 ce), (17, 0, .pointer (some ⟨b1, 1, none⟩)), (18, 0, .agg #[.int .i64 x.2.1.1, .slice x.2.1.2.1.ao x.2.1.2.1.l.length x.2.1.2.1.cap, .int .i64 x.2.1.2.2.1, .int .i64 x.2.1.2.2.2.1, .int .i64 x.2.1.2.2.2.2.1.1, .int .i64 x.2.1.2.2.2.2.1.2.1, .int .i64 x.2.1.2.2.2.2.1.2.2, .slice x.2.1.2.2.2.2.2.ao x.2.1.2.2.2.2.2.l.length x.2.1.2.2.2.2.2.cap]), (19, 0, .int .i64 ce), (27, 0, .slice a2_ n2_ c2_), (28, 0, .pointer (some ⟨b1, 9, none⟩)), (29, 0, .slice x.2.2.1.ao x.2.2.1.l.length x.2.2.1.cap), (30, 0, .slice la ln lc), (31, 0, .slice ao3_ (n2_ + ln) cap3_), (3, 0, .slice q_.1 q_.2.2.1 q_.2.1)]) (H' := fun q_ => [Item.cells b1 [.int .i64 x.1, .int .i64 x.2.1.1, .slice x.2.1.2.1.ao x.2.1.2.1.l.length x.2.1.2.1.cap, .int .i64 x.2.1.2.2.1, .int .i64 x.2.1.2.2.2.1, .int .i64 x.2.1.2.2.2.2.1.1, .int .i64 x.2.1.2.2.2.2.1.2.1, .int .i64 x.2.1.2.2.2.2.1.2.2, .slice x.2.1.2.2.2.2.2.ao x.2.1.2.2.2.2.2.l.length x.2.1.2.2.2.2.2.cap, .slice x.2.2.1.ao x.2.2.1.l.length x.2.2.1.cap, .int .i64 x.2.2.2.1, .int .i64 x.2.2.2.2.1, .int .i64 x.2.2.2.2.2.1, .int .i64 x.2.2.2.2.2.2.1, .slice x.2.2.2.2.2.2.2.ao x.2.2.2.2.2.2.2.l.length x.2.2.2.2.2.2.2.cap] 76, Item.own w0.heap.size q_.1 q_.2.2.1 q_.2.1 93 2 (cellsOf encNF (q_.2.2.2)), Item.own w0.heap.size la ln lc 93 2 (cellsOf encNF lL)]) (I := fun q_ => FLs q_.2.2.2 q_.2.2.1 (5 + 2 * x.2.2.1.l.length)) 3 ((ao6_, cap6_, n4_ + 1, L4_ ++ [((2 : Int), ((⟨#[102, 101, 101, 115]⟩) : ByteArray))])) ((by first | exact hF4.mono (by omega) | exact (hF4.snoc (by first | exact at_sz (by decide) | decide)).mono (by omega) | exact ((hF4.snoc (by first | exact at_sz (by decide) | decide)).snoc (by first | exact at_sz (by decide) | decide)).mono (by omega) | exact (((hF4.snoc (by first | exact at_sz (by decide) | decide)).snoc (by first | exact at_sz (by decide) | decide)).snoc (by first | exact at_sz (by decide) | decide)).mono (by omega))) ⟨rfl, rfl, rfl, rfl, rfl, rfl, rfl, rfl, rfl, rfl, rfl, rfl, rfl, rfl, rfl, rfl, rfl, rfl, rfl, rfl, rfl, rfl, rfl, rfl, rfl, rfl, trivial⟩ rfl
    · try simp only [Bool.and_eq_true, Bool.or_eq_true, Bool.not_eq_true', Bool.not_eq_false', Bool.and_eq_false_iff, Bool.or_eq_false_iff, decide_eq_true_eq, decide_eq_false_iff_not, Int.not_lt, Int.not_le, ne_eq, Decidable.not_not] at h5
      refine WC.skip ?_
      refine QX.cutx (σ := Option Addr × Nat × Nat × List NF) (E' := fun q_ => [(0, 0, .agg #[.int .i64 x.1, .int .i64 x.2.1.1, .slice x.2.1.2.1.ao x.2.1.2.1.l.length x.2.1.2.1.cap, .int .i64 x.2.1.2.2.1, .int .i64 x.2.1.2.2.2.1, .int .i64 x.2.1.2.2.2.2.1.1, .int .i64 x.2.1.2.2.2.2.1.2.1, .int .i64 x.2.1.2.2.2.2.1.2.2, .slice x.2.1.2.2.2.2.2.ao x.2.1.2.2.2.2.2.l.length x.2.1.2.2.2.2.2.cap, .slice x.2.2.1.ao x.2.2.1.l.length x.2.2.1.cap, .int .i64 x.2.2.2.1, .int .i64 x.2.2.2.2.1, .int .i64 x.2.2.2.2.2.1, .int .i64 x.2.2.2.2.2.2.1, .slice x.2.2.2.2.2.2.2.ao x.2.2.2.2.2.2.2.l.length x.2.2.2.2.2.2.2.cap]), (1, 0, .pointer (some ⟨b1, 0, none⟩)), (2, 0, .slice none 0 0), (4, 0, .int .i64 ce), (17, 0, .pointer (some ⟨b1, 1, none⟩)), (18, 0, .agg #[.int .i64 x.2.1.1, .slice x.2.1.2.1.ao x.2.1.2.1.l.length x.2.1.2.1.cap, .int .i64 x.2.1.2.2.1, .int .i64 x.2.1.2.2.2.1, .int .i64 x.2.1.2.2.2.2.1.1, .int .i64 x.2.1.2.2.2.2.1.2.1, .int .i64 x.2.1.2.2.2.2.1.2.2, .slice x.2.1.2.2.2.2.2.ao x.2.1.2.2.2.2.2.l.length x.2.1.2.2.2.2.2.cap]), (19, 0, .int .i64 ce), (27, 0, .slice a2_ n2_ c2_), (28, 0, .pointer (some ⟨b1, 9, none⟩)), (29, 0, .slice x.2.2.1.ao x.2.2.1.l.length x.2.2.1.cap), (30, 0, .slice la ln lc), (31, 0, .slice ao3_ (n2_ + ln) cap3_), (3, 0, .slice q_.1 q_.2.2.1 q_.2.1)]) (H' := fun q_ => [Item.cells b1 [.int .i64 x.1, .int .i64 x.2.1.1, .slice x.2.1.2.1.ao x.2.1.2.1.l.length x.2.1.2.1.cap, .int .i64 x.2.1.2.2.1, .int .i64 x.2.1.2.2.2.1, .int .i64 x.2.1.2.2.2.2.1.1, .int .i64 x.2.1.2.2.2.2.1.2.1, .int .i64 x.2.1.2.2.2.2.1.2.2, .slice x.2.1.2.2.2.2.2.ao x.2.1.2.2.2.2.2.l.length x.2.1.2.2.2.2.2.cap, .slice x.2.2.1.ao x.2.2.1.l.length x.2.2.1.cap, .int .i64 x.2.2.2.1, .int .i64 x.2.2.2.2.1, .int .i64 x.2.2.2.2.2.1, .int .i64 x.2.2.2.2.2.2.1, .slice x.2.2.2.2.2.2.2.ao x.2.2.2.2.2.2.2.l.length x.2.2.2.2.2.2.2.cap] 76, Item.own w0.heap.size q_.1 q_.2.2.1 q_.2.1 93 2 (cellsOf encNF (q_.2.2.2)), Item.own w0.heap.size la ln lc 93 2 (cellsOf encNF lL)]) (I := fun q_ => FLs q_.2.2.2 q_.2.2.1 (5 + 2 * x.2.2.1.l.length)) 3 ((a4_, c4_, n4_, L4_)) ((by first | exact hF4.mono (by omega) | exact (hF4.snoc (by first | exact at_sz (by decide) | decide)).mono (by omega) | exact ((hF4.snoc (by first | exact at_sz (by decide) | decide)).snoc (by first | exact at_sz (by decide) | decide)).mono (by omega) | exact (((hF4.snoc (by first | exact at_sz (by decide) | decide)).snoc (by first | exact at_sz (by decide) | decide)).snoc (by first | exact at_sz (by decide) | decide)).mono (by omega))) ⟨rfl, rfl, rfl, rfl, rfl, rfl, rfl, rfl, rfl, rfl, rfl, rfl, rfl, rfl, rfl, rfl, rfl, rfl, rfl, rfl, rfl, rfl, rfl, rfl, rfl, rfl, trivial⟩ rfl
  rintro ⟨a5_, c5_, n5_, L5_⟩ hF5
  try dsimp only at *
  have hFl5 := hF5.ln.le
  refine WC.seq ?_
  refine WC.region ?_
  refine SL.pure rfl rfl rfl (PureOp.move rfl) ?_
  refine SL.pure rfl rfl rfl (PureOp.fieldAddrT 14 Try.underlying76 rfl sz74 rfl rfl) ?_
  refine SL.pure rfl rfl rfl (PureOp.load (v := .slice x.2.2.2.2.2.2.2.ao x.2.2.2.2.2.2.2.l.length x.2.2.2.2.2.2.2.cap) Try.underlying74 rfl rfl (fun _ => (CellIs.cells 0 rfl rfl))) ?_
  refine SL.calln (fun L n => FLs L n (3 * x.2.2.2.2.2.2.2.l.length)) rfl rfl rfl rfl rfl rfl callable66 (fun w hw => percents_any pl _ _ _ hpl.symm hPm hps w (sP.below hw.below)) ?_
  intro pa pc pn pL hpF
  have hpFl := hpF.ln.le
  refine SL.norm [_, _, _, _] rfl ?_
  refine SL.append 1 rfl rfl Try.underlying63 elem93 rfl rfl rfl rfl (SrcIs.own 3 rfl) (by exact all_one_cells (fun x => rfl) _) (by omega) (by omega) (fun ao7_ cap7_ => ?_)
  refine SL.itemxs 1 rfl (show _ = cellsOf encNF (L5_ ++ pL) from by rw [cellsOf_append]) ?_
  refine SL.norm [_, _, _, _] rfl ?_
  refine SL.pure rfl rfl rfl (PureOp.assign rfl) ?_
  refine SL.nil_then ?_
  refine WC.ret ?_
  refine QX.ret1 rfl rfl ?_
  intro w hw
  exact ⟨_, _, _, _, rfl, (hF5.app hpF).mono (by omega), hw.mem (i := 1) rfl⟩

end Go.Proofs.Ytblmafknmeicfaa
