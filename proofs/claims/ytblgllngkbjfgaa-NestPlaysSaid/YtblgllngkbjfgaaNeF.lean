import Derived.Test.YtblgllngkbjfgaaNeE
namespace Go.Proofs.Ytblgllngkbjfgaa
open Go Go.RowKit Eng
set_option linter.unusedVariables false
set_option linter.unusedSimpArgs false

set_option maxHeartbeats 4000000 in
set_option maxRecDepth 100000 in
theorem Sell_ok (nm : ByteArray) (se ov : Int) (cl : List Cl) (ac : Option Addr) (nc cc : Nat) (hnc : nc = cl.length) (hcb : nc ≤ 30) (l : List Int) (ao : Option Addr) (n cap : Nat) (hn : n = l.length) (hnb : n ≤ 1000) (w0 : World) (hs : SliceIn w0 1 ao n cap (rowsF encI l)) (hc : SliceIn w0 2 ac nc cc (rowsF enc47 cl)) (hR : Rt se ov cl) (r x : Int) (hx : -9223372036854775808 ≤ x ∧ x ≤ 9223372036854775807) : FnC Try.prog 17 [.agg #[.string nm, .int .i64 se, .int .i64 ov, .slice ac nc cc], .slice ao n cap, .int .i64 r, .int .i64 x] w0 fun v w' => ∃ a c, v = .tuple #[.slice a (sellL (se + ov) cl l r x).length c, .int .i64 (sellE (se + ov) cl l r x)] ∧ w'.ownsRow w0.heap.size 3 1 (.slice a (sellL (se + ov) cl l r x).length c) (sellL (se + ov) cl l r x).length (cellsOf encI (sellL (se + ov) cl l r x)) := by
  refine fnc (N := 39) Try.func17 rfl rfl rfl ?_
  refine WC.seq ?_
  refine WC.region ?_
  refine SL.box rfl rfl rfl (fun b1 hb1 => ?_)
  refine SL.pure rfl rfl rfl (PureOp.assign rfl) ?_
  refine SL.pure rfl rfl rfl (PureOp.assign rfl) ?_
  refine SL.nil_then ?_
  refine WC.seq ?_
  refine WC.region ?_
  refine SL.pure rfl rfl rfl (PureOp.loads (vs := [.string nm, .int .i64 se, .int .i64 ov, .slice ac nc cc]) Try.underlying24 rfl rfl (fun _ => (RowIs.cells 0 0 4 rfl rfl)) sz24) ?_
  refine SL.pure rfl rfl rfl (PureOp.move rfl) ?_
  refine SL.pure rfl rfl rfl (PureOp.move rfl) ?_
  refine SL.pure rfl rfl rfl (PureOp.move rfl) ?_
  refine SL.callo (fun ka kc => .tuple #[.slice ka ((chL cl l r x).length) kc, .int .i64 (badE cl l r x)]) rfl rfl rfl rfl rfl rfl callable27 (fun w hw => change_ok nm se ov cl ac nc cc hnc hcb l ao n cap hn hnb w (hs.below hw.below) (hc.below hw.below) r x hx) (fun ka kc => ?_)
  refine SL.pure rfl rfl rfl (PureOp.move rfl) ?_
  refine SL.pure rfl rfl rfl (PureOp.extract rfl rfl) ?_
  refine SL.pure rfl rfl rfl (PureOp.extract rfl rfl) ?_
  refine SL.pure rfl rfl rfl (PureOp.assign rfl) ?_
  refine SL.pure rfl rfl rfl (PureOp.assign rfl) ?_
  refine SL.nil_then ?_
  refine WC.seq ?_
  refine WC.seq ?_
  refine WC.region ?_
  refine SL.pure rfl rfl rfl (PureOp.move rfl) ?_
  refine SL.pure rfl rfl rfl (PureOp.neq rfl rfl) ?_
  refine SL.nil_then ?_
  refine WC.cond rfl (fun h1 => ?_) (fun h1 => ?_)
  · try simp only [Bool.and_eq_true, Bool.or_eq_true, Bool.not_eq_true', Bool.not_eq_false', Bool.and_eq_false_iff, Bool.or_eq_false_iff, decide_eq_true_eq, decide_eq_false_iff_not, Int.not_lt, Int.not_le, ne_eq, Decidable.not_not] at h1
    refine WC.seq ?_
    refine WC.region ?_
    refine SL.pure rfl rfl rfl (PureOp.move rfl) ?_
    refine SL.pure rfl rfl rfl (PureOp.assign rfl) ?_
    refine SL.pure rfl rfl rfl (PureOp.assign rfl) ?_
    refine SL.nil_then ?_
    refine WC.ret ?_
    refine QX.ret_then ?_
    refine QX.ret2 rfl rfl rfl ?_
    intro w hw
    have q : sellE (se + ov) cl l r x = badE cl l r x := by rw [sellE, if_pos h1]
    have q2 : sellL (se + ov) cl l r x = [] := by rw [sellL, if_neg (by rw [q]; exact h1)]
    rw [q, q2]
    exact ⟨none, 0, rfl, ownsRow_nil⟩
  · try simp only [Bool.and_eq_true, Bool.or_eq_true, Bool.not_eq_true', Bool.not_eq_false', Bool.and_eq_false_iff, Bool.or_eq_false_iff, decide_eq_true_eq, decide_eq_false_iff_not, Int.not_lt, Int.not_le, ne_eq, Decidable.not_not] at h1
    have hb : badE cl l r x = 0 := by omega
    have hL : chL cl l r x = l := if_pos hb
    rw [hL]
    obtain ⟨hr, hx1, hr1, hr2⟩ := bad_zero hb
    rw [← hn]
    refine WC.skip ?_
    refine QX.then_ ?_
    refine WC.seq ?_
    refine WC.seq ?_
    refine WC.region ?_
    refine SL.pure rfl rfl rfl (PureOp.move rfl) ?_
    refine SL.pure rfl rfl rfl (PureOp.loads (vs := [.string nm, .int .i64 se, .int .i64 ov, .slice ac nc cc]) Try.underlying24 rfl rfl (fun _ => (RowIs.cells 0 0 4 rfl rfl)) sz24) ?_
    refine SL.pure rfl rfl rfl (PureOp.move rfl) ?_
    refine SL.callo (fun oa oc => .slice oa n oc) rfl rfl rfl rfl rfl rfl callable11 (fun w hw => open_r nm se ov cl ac nc cc hnc hcb l ao n cap hn hnb w (hs.below hw.below) (hc.below hw.below) hR hr) (fun oa oc => ?_)
    refine SL.pure rfl rfl rfl (PureOp.move rfl) ?_
    refine SL.pure rfl rfl rfl (PureOp.indexAddr Try.underlying25 sz3 rfl rfl (AoOk.own 2 rfl) (fun _ => by (first | omega | (have q1 := open_bd hR hr (i := r.toNat) (by omega); have q2 := hr.all r.toNat (by omega); omega) | (simp only [tab_len, cellsOf_length encI_len]; omega)))) ?_
    refine SL.pure rfl rfl rfl (PureOp.load (v := .int .i64 (opn (se + ov) cl l r.toNat)) Try.underlying3 rfl rfl (fun _ => (CellIs.ownc 2 rfl (r).toNat 0 (by exact (encI_get (by rw [tab_len]; omega)).trans (by rw [tab_nth _ _ (by omega)]))))) ?_
    refine SL.pure rfl rfl rfl (PureOp.gtr rfl rfl) ?_
    refine SL.nil_then ?_
    refine WC.cond rfl (fun h2 => ?_) (fun h2 => ?_)
    · try simp only [Bool.and_eq_true, Bool.or_eq_true, Bool.not_eq_true', Bool.not_eq_false', Bool.and_eq_false_iff, Bool.or_eq_false_iff, decide_eq_true_eq, decide_eq_false_iff_not, Int.not_lt, Int.not_le, ne_eq, Decidable.not_not] at h2
      refine WC.seq ?_
      refine WC.region ?_
      refine SL.pure rfl rfl rfl (PureOp.assign rfl) ?_
      refine SL.pure rfl rfl rfl (PureOp.assign rfl) ?_
      refine SL.nil_then ?_
      refine WC.ret ?_
      refine QX.ret_then ?_
      refine QX.ret2 rfl rfl rfl ?_
      intro w hw
      have h2 : opn (se + ov) cl l r.toNat < x := h2
      have q : sellE (se + ov) cl l r x = 17 := by rw [sellE, if_neg (by omega), if_pos (by rw [open_nth hr (by omega)]; exact h2)]
      have q2 : sellL (se + ov) cl l r x = [] := by rw [sellL, if_neg (by rw [q]; decide)]
      rw [q, q2]
      exact ⟨none, 0, rfl, ownsRow_nil⟩
    · try simp only [Bool.and_eq_true, Bool.or_eq_true, Bool.not_eq_true', Bool.not_eq_false', Bool.and_eq_false_iff, Bool.or_eq_false_iff, decide_eq_true_eq, decide_eq_false_iff_not, Int.not_lt, Int.not_le, ne_eq, Decidable.not_not] at h2
      refine WC.skip ?_
      refine QX.then_ ?_
      refine WC.seq ?_
      refine WC.region ?_
      refine SL.pure rfl rfl rfl (PureOp.move rfl) ?_
      refine SL.pure rfl rfl rfl (PureOp.move rfl) ?_
      refine SL.pure rfl rfl rfl (PureOp.indexAddr Try.underlying25 sz3 rfl rfl (AoOk.own 1 rfl) (fun _ => by (first | omega | (have q1 := open_bd hR hr (i := r.toNat) (by omega); have q2 := hr.all r.toNat (by omega); omega) | (simp only [tab_len, cellsOf_length encI_len]; omega)))) ?_
      refine SL.pure rfl rfl rfl (PureOp.load (v := .int .i64 (nth l r.toNat)) Try.underlying3 rfl rfl (fun _ => (CellIs.ownc 1 rfl (r).toNat 0 (by exact encI_get (by omega))))) ?_
      refine SL.pure rfl rfl rfl (PureOp.move rfl) ?_
      refine SL.pure rfl rfl rfl (PureOp.add rfl rfl (fun _ => by (first | omega | (have q1 := open_bd hR hr (i := r.toNat) (by omega); have q2 := hr.all r.toNat (by omega); omega) | (simp only [tab_len, cellsOf_length encI_len]; omega)))) ?_
      refine SL.pure rfl rfl rfl (PureOp.indexAddr Try.underlying25 sz3 rfl rfl (AoOk.own 1 rfl) (fun _ => by (first | omega | (have q1 := open_bd hR hr (i := r.toNat) (by omega); have q2 := hr.all r.toNat (by omega); omega) | (simp only [tab_len, cellsOf_length encI_len]; omega)))) ?_
      refine SL.storeown (k := ((r).toNat)) (j := 0) 1 rfl rfl rfl rfl sz3 (by (rw [cellsOf_length encI_len]; omega)) rfl ?_
      refine SL.itemxs 1 rfl (show _ = cellsOf encI (l.set r.toNat (nth l r.toNat + x)) from by rw [encI_set (by omega)]) ?_
      refine SL.nil_then ?_
      refine WC.seq ?_
      refine WC.region ?_
      refine SL.pure rfl rfl rfl (PureOp.move rfl) ?_
      refine SL.pure rfl rfl rfl (PureOp.assign rfl) ?_
      refine SL.pure rfl rfl rfl (PureOp.assign rfl) ?_
      refine SL.nil_then ?_
      refine WC.ret ?_
      refine QX.ret2 rfl rfl rfl ?_
      intro w hw
      have h2 : x ≤ opn (se + ov) cl l r.toNat := h2
      have q : sellE (se + ov) cl l r x = 0 := by rw [sellE, if_neg (by omega), if_neg (by rw [open_nth hr (by omega)]; omega)]
      have q2 : sellL (se + ov) cl l r x = l.set r.toNat (nth l r.toNat + x) := by rw [sellL, if_pos q]
      rw [q, q2, List.length_set, ← hn]
      exact ⟨_, _, rfl, hw.mem (i := 1) rfl⟩

theorem ropen_r (nm : ByteArray) (se ov : Int) (cl : List Cl) (ac : Option Addr) (nc cc : Nat) (hnc : nc = cl.length) (hcb : nc ≤ 30) (l : List Int) (ao : Option Addr) (n cap : Nat) (hn : n = l.length) (hnb : n ≤ 1000) (w0 : World) (hs : SliceIn w0 1 ao n cap (rowsF encI l)) (hc : SliceIn w0 2 ac nc cc (rowsF enc47 cl)) (hR : Rt se ov cl) (hr : Right cl l) : FnC Try.prog 12 [.agg #[.string nm, .int .i64 se, .int .i64 ov, .slice ac nc cc], .slice ao n cap] w0 fun v w' => ∃ a c, v = .slice a n c ∧ w'.ownsRow w0.heap.size 3 1 (.slice a n c) n (cellsOf encI (tab n (opn (se + ov) cl l))) := by
  have h := ropen_ok nm se ov cl ac nc cc hnc hcb l ao n cap hn hnb w0 hs hc hR
  rw [openL, if_pos (right_iff.2 hr), tab_len, ← hn] at h
  exact h
set_option maxHeartbeats 4000000 in
set_option maxRecDepth 100000 in
theorem RSell_ok (nm : ByteArray) (se ov : Int) (cl : List Cl) (ac : Option Addr) (nc cc : Nat) (hnc : nc = cl.length) (hcb : nc ≤ 30) (l : List Int) (ao : Option Addr) (n cap : Nat) (hn : n = l.length) (hnb : n ≤ 1000) (w0 : World) (hs : SliceIn w0 1 ao n cap (rowsF encI l)) (hc : SliceIn w0 2 ac nc cc (rowsF enc47 cl)) (hR : Rt se ov cl) (r x : Int) (hx : -9223372036854775808 ≤ x ∧ x ≤ 9223372036854775807) : FnC Try.prog 18 [.agg #[.string nm, .int .i64 se, .int .i64 ov, .slice ac nc cc], .slice ao n cap, .int .i64 r, .int .i64 x] w0 fun v w' => ∃ a c, v = .tuple #[.slice a (sellL (se + ov) cl l r x).length c, .int .i64 (sellE (se + ov) cl l r x)] ∧ w'.ownsRow w0.heap.size 3 1 (.slice a (sellL (se + ov) cl l r x).length c) (sellL (se + ov) cl l r x).length (cellsOf encI (sellL (se + ov) cl l r x)) := by
  refine fnc (N := 31) Try.func18 rfl rfl rfl ?_
  refine WC.seq ?_
  refine WC.region ?_
  refine SL.box rfl rfl rfl (fun b1 hb1 => ?_)
  refine SL.pure rfl rfl rfl (PureOp.assign rfl) ?_
  refine SL.pure rfl rfl rfl (PureOp.assign rfl) ?_
  refine SL.nil_then ?_
  refine WC.seq ?_
  refine WC.seq ?_
  refine WC.region ?_
  refine SL.pure rfl rfl rfl (PureOp.loads (vs := [.string nm, .int .i64 se, .int .i64 ov, .slice ac nc cc]) Try.underlying24 rfl rfl (fun _ => (RowIs.cells 0 0 4 rfl rfl)) sz24) ?_
  refine SL.pure rfl rfl rfl (PureOp.move rfl) ?_
  refine SL.pure rfl rfl rfl (PureOp.move rfl) ?_
  refine SL.pure rfl rfl rfl (PureOp.move rfl) ?_
  refine SL.calle rfl rfl rfl rfl rfl rfl callable28 (fun w hw => bad_ok_ nm se ov cl ac nc cc hnc hcb l ao n cap hn hnb w (hs.below hw.below) (hc.below hw.below) r x hx) ?_
  refine SL.pure rfl rfl rfl (PureOp.assign rfl) ?_
  refine SL.nil_then ?_
  refine WC.seq ?_
  refine WC.region ?_
  refine SL.pure rfl rfl rfl (PureOp.move rfl) ?_
  refine SL.pure rfl rfl rfl (PureOp.neq rfl rfl) ?_
  refine SL.nil_then ?_
  refine WC.cond rfl (fun h1 => ?_) (fun h1 => ?_)
  · try simp only [Bool.and_eq_true, Bool.or_eq_true, Bool.not_eq_true', Bool.not_eq_false', Bool.and_eq_false_iff, Bool.or_eq_false_iff, decide_eq_true_eq, decide_eq_false_iff_not, Int.not_lt, Int.not_le, ne_eq, Decidable.not_not] at h1
    refine WC.seq ?_
    refine WC.region ?_
    refine SL.pure rfl rfl rfl (PureOp.move rfl) ?_
    refine SL.pure rfl rfl rfl (PureOp.assign rfl) ?_
    refine SL.pure rfl rfl rfl (PureOp.assign rfl) ?_
    refine SL.nil_then ?_
    refine WC.ret ?_
    refine QX.ret_then ?_
    refine QX.ret2 rfl rfl rfl ?_
    intro w hw
    have q : sellE (se + ov) cl l r x = badE cl l r x := by rw [sellE, if_pos h1]
    have q2 : sellL (se + ov) cl l r x = [] := by rw [sellL, if_neg (by rw [q]; exact h1)]
    rw [q, q2]
    exact ⟨none, 0, rfl, ownsRow_nil⟩
  · try simp only [Bool.and_eq_true, Bool.or_eq_true, Bool.not_eq_true', Bool.not_eq_false', Bool.and_eq_false_iff, Bool.or_eq_false_iff, decide_eq_true_eq, decide_eq_false_iff_not, Int.not_lt, Int.not_le, ne_eq, Decidable.not_not] at h1
    have hb : badE cl l r x = 0 := by omega
    obtain ⟨hr, hx1, hr1, hr2⟩ := bad_zero hb
    refine WC.skip ?_
    refine QX.then_ ?_
    refine WC.seq ?_
    refine WC.seq ?_
    refine WC.region ?_
    refine SL.pure rfl rfl rfl (PureOp.move rfl) ?_
    refine SL.pure rfl rfl rfl (PureOp.loads (vs := [.string nm, .int .i64 se, .int .i64 ov, .slice ac nc cc]) Try.underlying24 rfl rfl (fun _ => (RowIs.cells 0 0 4 rfl rfl)) sz24) ?_
    refine SL.pure rfl rfl rfl (PureOp.move rfl) ?_
    refine SL.callo (fun oa oc => .slice oa n oc) rfl rfl rfl rfl rfl rfl callable12 (fun w hw => ropen_r nm se ov cl ac nc cc hnc hcb l ao n cap hn hnb w (hs.below hw.below) (hc.below hw.below) hR hr) (fun oa oc => ?_)
    refine SL.pure rfl rfl rfl (PureOp.move rfl) ?_
    refine SL.pure rfl rfl rfl (PureOp.indexAddr Try.underlying25 sz3 rfl rfl (AoOk.own 1 rfl) (fun _ => by (first | omega | (have q1 := open_bd hR hr (i := r.toNat) (by omega); have q2 := hr.all r.toNat (by omega); omega) | (simp only [tab_len, cellsOf_length encI_len]; omega)))) ?_
    refine SL.pure rfl rfl rfl (PureOp.load (v := .int .i64 (opn (se + ov) cl l r.toNat)) Try.underlying3 rfl rfl (fun _ => (CellIs.ownc 1 rfl (r).toNat 0 (by exact (encI_get (by rw [tab_len]; omega)).trans (by rw [tab_nth _ _ (by omega)]))))) ?_
    refine SL.pure rfl rfl rfl (PureOp.gtr rfl rfl) ?_
    refine SL.nil_then ?_
    refine WC.cond rfl (fun h2 => ?_) (fun h2 => ?_)
    · try simp only [Bool.and_eq_true, Bool.or_eq_true, Bool.not_eq_true', Bool.not_eq_false', Bool.and_eq_false_iff, Bool.or_eq_false_iff, decide_eq_true_eq, decide_eq_false_iff_not, Int.not_lt, Int.not_le, ne_eq, Decidable.not_not] at h2
      refine WC.seq ?_
      refine WC.region ?_
      refine SL.pure rfl rfl rfl (PureOp.assign rfl) ?_
      refine SL.pure rfl rfl rfl (PureOp.assign rfl) ?_
      refine SL.nil_then ?_
      refine WC.ret ?_
      refine QX.ret_then ?_
      refine QX.ret2 rfl rfl rfl ?_
      intro w hw
      have h2 : opn (se + ov) cl l r.toNat < x := h2
      have q : sellE (se + ov) cl l r x = 17 := by rw [sellE, if_neg (by omega), if_pos (by rw [open_nth hr (by omega)]; exact h2)]
      have q2 : sellL (se + ov) cl l r x = [] := by rw [sellL, if_neg (by rw [q]; decide)]
      rw [q, q2]
      exact ⟨none, 0, rfl, ownsRow_nil⟩
    · try simp only [Bool.and_eq_true, Bool.or_eq_true, Bool.not_eq_true', Bool.not_eq_false', Bool.and_eq_false_iff, Bool.or_eq_false_iff, decide_eq_true_eq, decide_eq_false_iff_not, Int.not_lt, Int.not_le, ne_eq, Decidable.not_not] at h2
      refine WC.skip ?_
      refine QX.then_ ?_
      refine WC.seq ?_
      refine WC.region ?_
      refine SL.pure rfl rfl rfl (PureOp.move rfl) ?_
      refine SL.pure rfl rfl rfl (PureOp.move rfl) ?_
      refine SL.pure rfl rfl rfl (PureOp.move rfl) ?_
      refine SL.callo (fun wa wc => .slice wa ((l.set r.toNat (nth l r.toNat + x)).length) wc) rfl rfl rfl rfl rfl rfl callable29 (fun w hw => with_ok l ao n cap hn hnb w (hs.below hw.below) r (x) (by omega) (by have q2 := hr.all r.toNat (by omega); have q1 := open_bd hR hr (i := r.toNat) (by omega); first | omega | (constructor <;> (try omega)))) (fun wa wc => ?_)
      refine SL.pure rfl rfl rfl (PureOp.assign rfl) ?_
      refine SL.pure rfl rfl rfl (PureOp.assign rfl) ?_
      refine SL.nil_then ?_
      refine WC.ret ?_
      refine QX.ret2 rfl rfl rfl ?_
      intro w hw
      have h2 : x ≤ opn (se + ov) cl l r.toNat := h2
      have q : sellE (se + ov) cl l r x = 0 := by rw [sellE, if_neg (by omega), if_neg (by rw [open_nth hr (by omega)]; omega)]
      have q2 : sellL (se + ov) cl l r x = l.set r.toNat (nth l r.toNat + x) := by rw [sellL, if_pos q]
      rw [q, q2]
      exact ⟨_, _, rfl, hw.mem (i := 2) rfl⟩

set_option maxHeartbeats 4000000 in
set_option maxRecDepth 100000 in
theorem Cancel_ok (nm : ByteArray) (se ov : Int) (cl : List Cl) (ac : Option Addr) (nc cc : Nat) (hnc : nc = cl.length) (hcb : nc ≤ 30) (l : List Int) (ao : Option Addr) (n cap : Nat) (hn : n = l.length) (hnb : n ≤ 1000) (w0 : World) (hs : SliceIn w0 1 ao n cap (rowsF encI l)) (hc : SliceIn w0 2 ac nc cc (rowsF enc47 cl)) (hR : Rt se ov cl) (r x : Int) (hx : -9223372036854775808 ≤ x ∧ x ≤ 9223372036854775807) : FnC Try.prog 19 [.agg #[.string nm, .int .i64 se, .int .i64 ov, .slice ac nc cc], .slice ao n cap, .int .i64 r, .int .i64 x] w0 fun v w' => ∃ a c, v = .tuple #[.slice a (cancL cl l r x).length c, .int .i64 (cancE cl l r x)] ∧ w'.ownsRow w0.heap.size 3 1 (.slice a (cancL cl l r x).length c) (cancL cl l r x).length (cellsOf encI (cancL cl l r x)) := by
  refine fnc (N := 37) Try.func19 rfl rfl rfl ?_
  refine WC.seq ?_
  refine WC.region ?_
  refine SL.box rfl rfl rfl (fun b1 hb1 => ?_)
  refine SL.pure rfl rfl rfl (PureOp.assign rfl) ?_
  refine SL.pure rfl rfl rfl (PureOp.assign rfl) ?_
  refine SL.nil_then ?_
  refine WC.seq ?_
  refine WC.region ?_
  refine SL.pure rfl rfl rfl (PureOp.loads (vs := [.string nm, .int .i64 se, .int .i64 ov, .slice ac nc cc]) Try.underlying24 rfl rfl (fun _ => (RowIs.cells 0 0 4 rfl rfl)) sz24) ?_
  refine SL.pure rfl rfl rfl (PureOp.move rfl) ?_
  refine SL.pure rfl rfl rfl (PureOp.move rfl) ?_
  refine SL.pure rfl rfl rfl (PureOp.move rfl) ?_
  refine SL.callo (fun ka kc => .tuple #[.slice ka ((chL cl l r x).length) kc, .int .i64 (badE cl l r x)]) rfl rfl rfl rfl rfl rfl callable27 (fun w hw => change_ok nm se ov cl ac nc cc hnc hcb l ao n cap hn hnb w (hs.below hw.below) (hc.below hw.below) r x hx) (fun ka kc => ?_)
  refine SL.pure rfl rfl rfl (PureOp.move rfl) ?_
  refine SL.pure rfl rfl rfl (PureOp.extract rfl rfl) ?_
  refine SL.pure rfl rfl rfl (PureOp.extract rfl rfl) ?_
  refine SL.pure rfl rfl rfl (PureOp.assign rfl) ?_
  refine SL.pure rfl rfl rfl (PureOp.assign rfl) ?_
  refine SL.nil_then ?_
  refine WC.seq ?_
  refine WC.seq ?_
  refine WC.region ?_
  refine SL.pure rfl rfl rfl (PureOp.move rfl) ?_
  refine SL.pure rfl rfl rfl (PureOp.neq rfl rfl) ?_
  refine SL.nil_then ?_
  refine WC.cond rfl (fun h1 => ?_) (fun h1 => ?_)
  · try simp only [Bool.and_eq_true, Bool.or_eq_true, Bool.not_eq_true', Bool.not_eq_false', Bool.and_eq_false_iff, Bool.or_eq_false_iff, decide_eq_true_eq, decide_eq_false_iff_not, Int.not_lt, Int.not_le, ne_eq, Decidable.not_not] at h1
    refine WC.seq ?_
    refine WC.region ?_
    refine SL.pure rfl rfl rfl (PureOp.move rfl) ?_
    refine SL.pure rfl rfl rfl (PureOp.assign rfl) ?_
    refine SL.pure rfl rfl rfl (PureOp.assign rfl) ?_
    refine SL.nil_then ?_
    refine WC.ret ?_
    refine QX.ret_then ?_
    refine QX.ret2 rfl rfl rfl ?_
    intro w hw
    have q : cancE cl l r x = badE cl l r x := by rw [cancE, if_pos h1]
    have q2 : cancL cl l r x = [] := by rw [cancL, if_neg (by rw [q]; exact h1)]
    rw [q, q2]
    exact ⟨none, 0, rfl, ownsRow_nil⟩
  · try simp only [Bool.and_eq_true, Bool.or_eq_true, Bool.not_eq_true', Bool.not_eq_false', Bool.and_eq_false_iff, Bool.or_eq_false_iff, decide_eq_true_eq, decide_eq_false_iff_not, Int.not_lt, Int.not_le, ne_eq, Decidable.not_not] at h1
    have hb : badE cl l r x = 0 := by omega
    have hL : chL cl l r x = l := if_pos hb
    rw [hL]
    obtain ⟨hr, hx1, hr1, hr2⟩ := bad_zero hb
    rw [← hn]
    refine WC.skip ?_
    refine QX.then_ ?_
    refine WC.seq ?_
    refine WC.seq ?_
    refine WC.region ?_
    refine SL.pure rfl rfl rfl (PureOp.move rfl) ?_
    refine SL.pure rfl rfl rfl (PureOp.move rfl) ?_
    refine SL.pure rfl rfl rfl (PureOp.indexAddr Try.underlying25 sz3 rfl rfl (AoOk.own 1 rfl) (fun _ => by (first | omega | (have q1 := open_bd hR hr (i := r.toNat) (by omega); have q2 := hr.all r.toNat (by omega); omega) | (simp only [tab_len, cellsOf_length encI_len]; omega)))) ?_
    refine SL.pure rfl rfl rfl (PureOp.load (v := .int .i64 (nth l r.toNat)) Try.underlying3 rfl rfl (fun _ => (CellIs.ownc 1 rfl (r).toNat 0 (by exact encI_get (by omega))))) ?_
    refine SL.pure rfl rfl rfl (PureOp.move rfl) ?_
    refine SL.pure rfl rfl rfl (PureOp.lss rfl rfl) ?_
    refine SL.nil_then ?_
    refine WC.cond rfl (fun h2 => ?_) (fun h2 => ?_)
    · try simp only [Bool.and_eq_true, Bool.or_eq_true, Bool.not_eq_true', Bool.not_eq_false', Bool.and_eq_false_iff, Bool.or_eq_false_iff, decide_eq_true_eq, decide_eq_false_iff_not, Int.not_lt, Int.not_le, ne_eq, Decidable.not_not] at h2
      refine WC.seq ?_
      refine WC.region ?_
      refine SL.pure rfl rfl rfl (PureOp.assign rfl) ?_
      refine SL.pure rfl rfl rfl (PureOp.assign rfl) ?_
      refine SL.nil_then ?_
      refine WC.ret ?_
      refine QX.ret_then ?_
      refine QX.ret2 rfl rfl rfl ?_
      intro w hw
      have q : cancE cl l r x = 2 := by rw [cancE, if_neg (by omega), if_pos (by omega)]
      have q2 : cancL cl l r x = [] := by rw [cancL, if_neg (by rw [q]; decide)]
      rw [q, q2]
      exact ⟨none, 0, rfl, ownsRow_nil⟩
    · try simp only [Bool.and_eq_true, Bool.or_eq_true, Bool.not_eq_true', Bool.not_eq_false', Bool.and_eq_false_iff, Bool.or_eq_false_iff, decide_eq_true_eq, decide_eq_false_iff_not, Int.not_lt, Int.not_le, ne_eq, Decidable.not_not] at h2
      refine WC.skip ?_
      refine QX.then_ ?_
      refine WC.seq ?_
      refine WC.region ?_
      refine SL.pure rfl rfl rfl (PureOp.move rfl) ?_
      refine SL.pure rfl rfl rfl (PureOp.move rfl) ?_
      refine SL.pure rfl rfl rfl (PureOp.indexAddr Try.underlying25 sz3 rfl rfl (AoOk.own 1 rfl) (fun _ => by (first | omega | (have q1 := open_bd hR hr (i := r.toNat) (by omega); have q2 := hr.all r.toNat (by omega); omega) | (simp only [tab_len, cellsOf_length encI_len]; omega)))) ?_
      refine SL.pure rfl rfl rfl (PureOp.load (v := .int .i64 (nth l r.toNat)) Try.underlying3 rfl rfl (fun _ => (CellIs.ownc 1 rfl (r).toNat 0 (by exact encI_get (by omega))))) ?_
      refine SL.pure rfl rfl rfl (PureOp.move rfl) ?_
      refine SL.pure rfl rfl rfl (PureOp.sub rfl rfl (fun _ => by (first | omega | (have q1 := open_bd hR hr (i := r.toNat) (by omega); have q2 := hr.all r.toNat (by omega); omega) | (simp only [tab_len, cellsOf_length encI_len]; omega)))) ?_
      refine SL.pure rfl rfl rfl (PureOp.indexAddr Try.underlying25 sz3 rfl rfl (AoOk.own 1 rfl) (fun _ => by (first | omega | (have q1 := open_bd hR hr (i := r.toNat) (by omega); have q2 := hr.all r.toNat (by omega); omega) | (simp only [tab_len, cellsOf_length encI_len]; omega)))) ?_
      refine SL.storeown (k := ((r).toNat)) (j := 0) 1 rfl rfl rfl rfl sz3 (by (rw [cellsOf_length encI_len]; omega)) rfl ?_
      refine SL.itemxs 1 rfl (show _ = cellsOf encI (l.set r.toNat (nth l r.toNat - x)) from by rw [encI_set (by omega)]) ?_
      refine SL.nil_then ?_
      refine WC.seq ?_
      refine WC.region ?_
      refine SL.pure rfl rfl rfl (PureOp.move rfl) ?_
      refine SL.pure rfl rfl rfl (PureOp.assign rfl) ?_
      refine SL.pure rfl rfl rfl (PureOp.assign rfl) ?_
      refine SL.nil_then ?_
      refine WC.ret ?_
      refine QX.ret2 rfl rfl rfl ?_
      intro w hw
      have q : cancE cl l r x = 0 := by rw [cancE, if_neg (by omega), if_neg (by omega)]
      have q2 : cancL cl l r x = l.set r.toNat (nth l r.toNat - x) := by rw [cancL, if_pos q]
      rw [q, q2, List.length_set, ← hn]
      exact ⟨_, _, rfl, hw.mem (i := 1) rfl⟩

set_option maxHeartbeats 4000000 in
set_option maxRecDepth 100000 in
theorem RCancel_ok (nm : ByteArray) (se ov : Int) (cl : List Cl) (ac : Option Addr) (nc cc : Nat) (hnc : nc = cl.length) (hcb : nc ≤ 30) (l : List Int) (ao : Option Addr) (n cap : Nat) (hn : n = l.length) (hnb : n ≤ 1000) (w0 : World) (hs : SliceIn w0 1 ao n cap (rowsF encI l)) (hc : SliceIn w0 2 ac nc cc (rowsF enc47 cl)) (hR : Rt se ov cl) (r x : Int) (hx : -9223372036854775808 ≤ x ∧ x ≤ 9223372036854775807) : FnC Try.prog 20 [.agg #[.string nm, .int .i64 se, .int .i64 ov, .slice ac nc cc], .slice ao n cap, .int .i64 r, .int .i64 x] w0 fun v w' => ∃ a c, v = .tuple #[.slice a (cancL cl l r x).length c, .int .i64 (cancE cl l r x)] ∧ w'.ownsRow w0.heap.size 3 1 (.slice a (cancL cl l r x).length c) (cancL cl l r x).length (cellsOf encI (cancL cl l r x)) := by
  refine fnc (N := 30) Try.func20 rfl rfl rfl ?_
  refine WC.seq ?_
  refine WC.region ?_
  refine SL.box rfl rfl rfl (fun b1 hb1 => ?_)
  refine SL.pure rfl rfl rfl (PureOp.assign rfl) ?_
  refine SL.pure rfl rfl rfl (PureOp.assign rfl) ?_
  refine SL.nil_then ?_
  refine WC.seq ?_
  refine WC.seq ?_
  refine WC.region ?_
  refine SL.pure rfl rfl rfl (PureOp.loads (vs := [.string nm, .int .i64 se, .int .i64 ov, .slice ac nc cc]) Try.underlying24 rfl rfl (fun _ => (RowIs.cells 0 0 4 rfl rfl)) sz24) ?_
  refine SL.pure rfl rfl rfl (PureOp.move rfl) ?_
  refine SL.pure rfl rfl rfl (PureOp.move rfl) ?_
  refine SL.pure rfl rfl rfl (PureOp.move rfl) ?_
  refine SL.calle rfl rfl rfl rfl rfl rfl callable28 (fun w hw => bad_ok_ nm se ov cl ac nc cc hnc hcb l ao n cap hn hnb w (hs.below hw.below) (hc.below hw.below) r x hx) ?_
  refine SL.pure rfl rfl rfl (PureOp.assign rfl) ?_
  refine SL.nil_then ?_
  refine WC.seq ?_
  refine WC.region ?_
  refine SL.pure rfl rfl rfl (PureOp.move rfl) ?_
  refine SL.pure rfl rfl rfl (PureOp.neq rfl rfl) ?_
  refine SL.nil_then ?_
  refine WC.cond rfl (fun h1 => ?_) (fun h1 => ?_)
  · try simp only [Bool.and_eq_true, Bool.or_eq_true, Bool.not_eq_true', Bool.not_eq_false', Bool.and_eq_false_iff, Bool.or_eq_false_iff, decide_eq_true_eq, decide_eq_false_iff_not, Int.not_lt, Int.not_le, ne_eq, Decidable.not_not] at h1
    refine WC.seq ?_
    refine WC.region ?_
    refine SL.pure rfl rfl rfl (PureOp.move rfl) ?_
    refine SL.pure rfl rfl rfl (PureOp.assign rfl) ?_
    refine SL.pure rfl rfl rfl (PureOp.assign rfl) ?_
    refine SL.nil_then ?_
    refine WC.ret ?_
    refine QX.ret_then ?_
    refine QX.ret2 rfl rfl rfl ?_
    intro w hw
    have q : cancE cl l r x = badE cl l r x := by rw [cancE, if_pos h1]
    have q2 : cancL cl l r x = [] := by rw [cancL, if_neg (by rw [q]; exact h1)]
    rw [q, q2]
    exact ⟨none, 0, rfl, ownsRow_nil⟩
  · try simp only [Bool.and_eq_true, Bool.or_eq_true, Bool.not_eq_true', Bool.not_eq_false', Bool.and_eq_false_iff, Bool.or_eq_false_iff, decide_eq_true_eq, decide_eq_false_iff_not, Int.not_lt, Int.not_le, ne_eq, Decidable.not_not] at h1
    have hb : badE cl l r x = 0 := by omega
    obtain ⟨hr, hx1, hr1, hr2⟩ := bad_zero hb
    refine WC.skip ?_
    refine QX.then_ ?_
    refine WC.seq ?_
    refine WC.seq ?_
    refine WC.region ?_
    refine SL.pure rfl rfl rfl (PureOp.move rfl) ?_
    refine SL.pure rfl rfl rfl (PureOp.move rfl) ?_
    refine SL.pure rfl rfl rfl (PureOp.move rfl) ?_
    refine SL.pure rfl rfl rfl (PureOp.indexAddr Try.underlying25 sz3 rfl rfl (AoOk.in_ hs) (fun _ => by (first | omega | (have q1 := open_bd hR hr (i := r.toNat) (by omega); have q2 := hr.all r.toNat (by omega); omega) | (simp only [tab_len, cellsOf_length encI_len]; omega)))) ?_
    refine SL.pure rfl rfl rfl (PureOp.load (v := .int .i64 (nth l ((r).toNat))) Try.underlying3 rfl rfl (fun _ => (CellIs.in_ hs (r).toNat 0 (by (first | omega | (have q1 := open_bd hR hr (i := r.toNat) (by omega); have q2 := hr.all r.toNat (by omega); omega) | (simp only [tab_len, cellsOf_length encI_len]; omega))) (by omega)))) ?_
    refine SL.pure rfl rfl rfl (PureOp.gtr rfl rfl) ?_
    refine SL.nil_then ?_
    refine WC.cond rfl (fun h2 => ?_) (fun h2 => ?_)
    · try simp only [Bool.and_eq_true, Bool.or_eq_true, Bool.not_eq_true', Bool.not_eq_false', Bool.and_eq_false_iff, Bool.or_eq_false_iff, decide_eq_true_eq, decide_eq_false_iff_not, Int.not_lt, Int.not_le, ne_eq, Decidable.not_not] at h2
      refine WC.seq ?_
      refine WC.region ?_
      refine SL.pure rfl rfl rfl (PureOp.assign rfl) ?_
      refine SL.pure rfl rfl rfl (PureOp.assign rfl) ?_
      refine SL.nil_then ?_
      refine WC.ret ?_
      refine QX.ret_then ?_
      refine QX.ret2 rfl rfl rfl ?_
      intro w hw
      have q : cancE cl l r x = 2 := by rw [cancE, if_neg (by omega), if_pos (by omega)]
      have q2 : cancL cl l r x = [] := by rw [cancL, if_neg (by rw [q]; decide)]
      rw [q, q2]
      exact ⟨none, 0, rfl, ownsRow_nil⟩
    · try simp only [Bool.and_eq_true, Bool.or_eq_true, Bool.not_eq_true', Bool.not_eq_false', Bool.and_eq_false_iff, Bool.or_eq_false_iff, decide_eq_true_eq, decide_eq_false_iff_not, Int.not_lt, Int.not_le, ne_eq, Decidable.not_not] at h2
      refine WC.skip ?_
      refine QX.then_ ?_
      refine WC.seq ?_
      refine WC.region ?_
      refine SL.pure rfl rfl rfl (PureOp.move rfl) ?_
      refine SL.pure rfl rfl rfl (PureOp.move rfl) ?_
      refine SL.pure rfl rfl rfl (PureOp.move rfl) ?_
      refine SL.pure rfl rfl rfl (PureOp.neg rfl (fun _ => by (first | omega | (have q1 := open_bd hR hr (i := r.toNat) (by omega); have q2 := hr.all r.toNat (by omega); omega) | (simp only [tab_len, cellsOf_length encI_len]; omega)))) ?_
      refine SL.callo (fun wa wc => .slice wa ((l.set r.toNat (nth l r.toNat + (-x))).length) wc) rfl rfl rfl rfl rfl rfl callable29 (fun w hw => with_ok l ao n cap hn hnb w (hs.below hw.below) r (-x) (by omega) (by have q2 := hr.all r.toNat (by omega); have q1 := open_bd hR hr (i := r.toNat) (by omega); first | omega | (constructor <;> (try omega)))) (fun wa wc => ?_)
      refine SL.pure rfl rfl rfl (PureOp.assign rfl) ?_
      refine SL.pure rfl rfl rfl (PureOp.assign rfl) ?_
      refine SL.nil_then ?_
      refine WC.ret ?_
      refine QX.ret2 rfl rfl rfl ?_
      intro w hw
      have q : cancE cl l r x = 0 := by rw [cancE, if_neg (by omega), if_neg (by omega)]
      have q2 : cancL cl l r x = l.set r.toNat (nth l r.toNat - x) := by rw [cancL, if_pos q]
      rw [q, q2, show nth l r.toNat - x = nth l r.toNat + -x from by omega]
      exact ⟨_, _, rfl, hw.mem (i := 1) rfl⟩

set_option maxHeartbeats 4000000 in
set_option maxRecDepth 100000 in
theorem same_ok (l : List Int) (a1 a2 : Option Addr) (n1 n2 c1 c2 : Nat) (hn1 : n1 = l.length) (hn2 : n2 = l.length) (w0 : World) (hz1 : SliceIn w0 1 a1 n1 c1 (rowsF encI l)) (hz2 : SliceIn w0 1 a2 n2 c2 (rowsF encI l)) (hnb : n1 ≤ 1000) : FnC Try.prog 10 [.slice a1 n1 c1, .slice a2 n2 c2] w0 fun v w' => v = .bool true := by
  refine fnc (N := 26) Try.func10 rfl rfl rfl ?_
  refine WC.seq ?_
  refine WC.region ?_
  refine SL.pure rfl rfl rfl (PureOp.assign rfl) ?_
  refine SL.nil_then ?_
  refine WC.seq ?_
  refine WC.seq ?_
  refine WC.region ?_
  refine SL.pure rfl rfl rfl (PureOp.move rfl) ?_
  refine SL.pure rfl rfl rfl (PureOp.len rfl Try.underlying25) ?_
  refine SL.pure rfl rfl rfl (PureOp.move rfl) ?_
  refine SL.pure rfl rfl rfl (PureOp.len rfl Try.underlying25) ?_
  refine SL.pure rfl rfl rfl (PureOp.neq rfl rfl) ?_
  refine SL.nil_then ?_
  refine WC.cond rfl (fun h1 => ?_) (fun h1 => ?_)
  · try simp only [Bool.and_eq_true, Bool.or_eq_true, Bool.not_eq_true', Bool.not_eq_false', Bool.and_eq_false_iff, Bool.or_eq_false_iff, decide_eq_true_eq, decide_eq_false_iff_not, Int.not_lt, Int.not_le, ne_eq, Decidable.not_not] at h1
    exact absurd h1 (by omega)
  · try simp only [Bool.and_eq_true, Bool.or_eq_true, Bool.not_eq_true', Bool.not_eq_false', Bool.and_eq_false_iff, Bool.or_eq_false_iff, decide_eq_true_eq, decide_eq_false_iff_not, Int.not_lt, Int.not_le, ne_eq, Decidable.not_not] at h1
    refine WC.skip ?_
    refine QX.then_ ?_
    refine WC.seq ?_
    refine WC.seq ?_
    refine WC.region ?_
    refine SL.pure rfl rfl rfl (PureOp.assign rfl) ?_
    refine SL.nil_then ?_
    refine WC.block ?_
    refine WC.loop (σ := Nat) (fun q_ => [(0, 0, .slice a1 n1 c1), (1, 0, .slice a2 n2 c2), (6, 0, .slice a1 n1 c1), (7, 0, .int .i64 ((n1 : Nat) : Int)), (8, 0, .slice a2 n2 c2), (9, 0, .int .i64 ((n2 : Nat) : Int)), (10, 0, .bool (decide (((n1 : Nat) : Int) ≠ ((n2 : Nat) : Int)))), (5, 0, .int .i64 ((q_ : Nat) : Int))]) (fun q_ => []) (fun q_ => q_ ≤ n1) (fun q_ => n1 - q_) 0 (0) (Nat.zero_le _) ⟨rfl, rfl, rfl, rfl, rfl, rfl, rfl, rfl, rfl, rfl, rfl, rfl, rfl, rfl, rfl, rfl, trivial⟩ rfl ?_
    rintro k hk
    refine WC.seq ?_
    refine WC.seq ?_
    refine WC.region ?_
    refine SL.pure rfl rfl rfl (PureOp.move rfl) ?_
    refine SL.pure rfl rfl rfl (PureOp.move rfl) ?_
    refine SL.pure rfl rfl rfl (PureOp.len rfl Try.underlying25) ?_
    refine SL.pure rfl rfl rfl (PureOp.lss rfl rfl) ?_
    refine SL.nil_then ?_
    refine WC.cond rfl (fun h2 => ?_) (fun h2 => ?_)
    · try simp only [Bool.and_eq_true, Bool.or_eq_true, Bool.not_eq_true', Bool.not_eq_false', Bool.and_eq_false_iff, Bool.or_eq_false_iff, decide_eq_true_eq, decide_eq_false_iff_not, Int.not_lt, Int.not_le, ne_eq, Decidable.not_not] at h2
      refine WC.skip ?_
      refine QX.then_ ?_
      refine WC.seq ?_
      refine WC.block ?_
      refine WC.seq ?_
      refine WC.quiet rfl (by kernel_rfl) ?_
      refine SQ.pure rfl rfl rfl (PureOp.move rfl) ?_
      refine SQ.pure rfl rfl rfl (PureOp.move rfl) ?_
      refine SQ.pure rfl rfl rfl (PureOp.indexAddrN Try.underlying25 sz3 rfl rfl (AoOk.in_ hz1) (fun _ => by omega)) ?_
      refine SQ.pure rfl rfl rfl (PureOp.load Try.underlying3 rfl rfl (fun _ => (CellIs.in_ hz1 k 0 (by omega) (by omega)))) ?_
      refine SQ.pure rfl rfl rfl (PureOp.move rfl) ?_
      refine SQ.pure rfl rfl rfl (PureOp.move rfl) ?_
      refine SQ.pure rfl rfl rfl (PureOp.indexAddrN Try.underlying25 sz3 rfl rfl (AoOk.in_ hz2) (fun _ => by omega)) ?_
      refine SQ.pure rfl rfl rfl (PureOp.load Try.underlying3 rfl rfl (fun _ => (CellIs.in_ hz2 k 0 (by omega) (by omega)))) ?_
      refine SQ.pure rfl rfl rfl (PureOp.neq rfl rfl) ?_
      refine SQ.nil_then ?_
      refine WC.cond rfl (fun h3 => ?_) (fun h3 => ?_)
      · try simp only [Bool.and_eq_true, Bool.or_eq_true, Bool.not_eq_true', Bool.not_eq_false', Bool.and_eq_false_iff, Bool.or_eq_false_iff, decide_eq_true_eq, decide_eq_false_iff_not, Int.not_lt, Int.not_le, ne_eq, Decidable.not_not] at h3
        exact absurd h3 (by simp)
      · try simp only [Bool.and_eq_true, Bool.or_eq_true, Bool.not_eq_true', Bool.not_eq_false', Bool.and_eq_false_iff, Bool.or_eq_false_iff, decide_eq_true_eq, decide_eq_false_iff_not, Int.not_lt, Int.not_le, ne_eq, Decidable.not_not] at h3
        refine WC.skip ?_
        refine QX.normal_in ?_
        refine QX.then_ ?_
        refine WC.region ?_
        refine SL.pure rfl rfl rfl (PureOp.move rfl) ?_
        refine SL.pure rfl rfl rfl (PureOp.addN (k := 1) rfl rfl (fun _ => by omega)) ?_
        refine SL.pure rfl rfl rfl (PureOp.assign rfl) ?_
        refine SL.nil ?_
        refine QX.round 0 (k + 1) ⟨by omega, by first | omega | (dsimp only; omega)⟩ ⟨rfl, rfl, rfl, rfl, rfl, rfl, rfl, rfl, rfl, rfl, rfl, rfl, rfl, rfl, rfl, rfl, trivial⟩ rfl
    · try simp only [Bool.and_eq_true, Bool.or_eq_true, Bool.not_eq_true', Bool.not_eq_false', Bool.and_eq_false_iff, Bool.or_eq_false_iff, decide_eq_true_eq, decide_eq_false_iff_not, Int.not_lt, Int.not_le, ne_eq, Decidable.not_not] at h2
      refine WC.exit ?_
      refine QX.exit_then ?_
      refine QX.exit_then ?_
      refine QX.exit_hit ?_
      refine QX.then_ ?_
      refine WC.seq ?_
      refine WC.region ?_
      refine SL.pure rfl rfl rfl (PureOp.assign rfl) ?_
      refine SL.nil_then ?_
      refine WC.ret ?_
      refine QX.ret1 rfl rfl ?_
      intro w hw
      rfl

end Go.Proofs.Ytblgllngkbjfgaa
