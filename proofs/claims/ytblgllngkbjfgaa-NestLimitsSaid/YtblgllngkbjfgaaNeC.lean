import Derived.Test.YtblgllngkbjfgaaNeB
namespace Go.Proofs.Ytblgllngkbjfgaa
open Go Go.RowKit Eng
set_option linter.unusedVariables false
set_option linter.unusedSimpArgs false

theorem nn {l : List Int} {cl : List Cl} {n nc : Nat} (hn : n = l.length) (hnc : nc = cl.length) (hr : Right cl l) : n = nc := by have := hr.len; omega
set_option maxHeartbeats 4000000 in
set_option maxRecDepth 100000 in
theorem spare_ok (nm : ByteArray) (se ov : Int) (cl : List Cl) (ac : Option Addr) (nc cc : Nat) (hnc : nc = cl.length) (hcb : nc ≤ 30) (l : List Int) (ao : Option Addr) (n cap : Nat) (hn : n = l.length) (hnb : n ≤ 1000) (w0 : World) (hs : SliceIn w0 1 ao n cap (rowsF encI l)) (hc : SliceIn w0 2 ac nc cc (rowsF enc47 cl)) (hR : Rt se ov cl) (hr : Right cl l) : FnC Try.prog 24 [.agg #[.string nm, .int .i64 se, .int .i64 ov, .slice ac nc cc], .slice ao n cap] w0 fun v w' => ∃ a c, v = .slice a n c ∧ w'.ownsRow w0.heap.size 3 1 (.slice a n c) n (cellsOf encI (tab n (sp (se + ov) cl l))) := by
  refine fnc (N := 32) Try.func24 rfl rfl rfl ?_
  refine WC.seq ?_
  refine WC.region ?_
  refine SL.box rfl rfl rfl (fun b1 hb1 => ?_)
  refine SL.pure rfl rfl rfl (PureOp.assign rfl) ?_
  refine SL.nil_then ?_
  refine WC.seq ?_
  refine WC.region ?_
  refine SL.pure rfl rfl rfl (PureOp.loads (vs := [.string nm, .int .i64 se, .int .i64 ov, .slice ac nc cc]) Try.underlying24 rfl rfl (fun _ => (RowIs.cells 0 0 4 rfl rfl)) sz24) ?_
  refine SL.callo (fun la lc => .slice la nc lc) rfl rfl rfl rfl rfl rfl callable36 (fun w hw => limits_n nm se ov cl ac nc cc hnc hcb w (hc.below hw.below) hR) (fun la lc => ?_)
  refine SL.callo (fun sa sc => .slice sa ((tab nc (lim (se + ov) cl)).length) sc) rfl rfl rfl rfl rfl rfl callable35 (fun w hw => clone_ok (tab nc (lim (se + ov) cl)) la nc lc (by rw [tab_len]) (by omega) w (SliceIn.rows (hw.mem (i := 1) rfl) encI_len (by rw [tab_len]; exact Nat.le_refl _))) (fun sa sc => ?_)
  refine SL.pure rfl rfl rfl (PureOp.assign rfl) ?_
  refine SL.nil_then ?_
  refine WC.seq ?_
  refine WC.region ?_
  refine SL.pure rfl rfl rfl (PureOp.assign rfl) ?_
  refine SL.nil_then ?_
  refine WC.seq ?_
  refine WC.seq ?_
  refine WC.region ?_
  refine SL.pure rfl rfl rfl (PureOp.move rfl) ?_
  refine SL.pure rfl rfl rfl (PureOp.len rfl Try.underlying25) ?_
  refine SL.pure rfl rfl rfl (PureOp.sub rfl rfl (fun _ => by (have q0 := nn hn hnc hr; first | omega | (simp only [tab_len, cellsOf_length encI_len]; omega) | (have q1 := suf_bd hr (k + 1).toNat (by omega); have q2 := hr.all k.toNat (by omega); omega) | (have q4 := suf_succ (l := l) (i := k.toNat) (by omega); rw [show k.toNat + 1 = (k + 1).toNat from by omega] at q4; have q1 := suf_bd hr k.toNat (by omega); have q3 := lim_bd hR (i := k.toNat) (by omega); have q5 := hR.s1; have q6 := hR.o1; omega)))) ?_
  refine SL.pure rfl rfl rfl (PureOp.assign rfl) ?_
  refine SL.nil_then ?_
  refine WC.block ?_
  refine WC.loop (σ := Int × Int) (fun q_ => [(0, 0, .agg #[.string nm, .int .i64 se, .int .i64 ov, .slice ac nc cc]), (1, 0, .slice ao n cap), (2, 0, .pointer (some ⟨b1, 0, none⟩)), (4, 0, .slice none 0 0), (5, 0, .slice sa ((tab nc (lim (se + ov) cl)).length) sc), (8, 0, .agg #[.string nm, .int .i64 se, .int .i64 ov, .slice ac nc cc]), (9, 0, .slice la nc lc), (10, 0, .slice sa ((tab nc (lim (se + ov) cl)).length) sc), (11, 0, .slice sa ((tab nc (lim (se + ov) cl)).length) sc), (12, 0, .int .i64 (((tab nc (lim (se + ov) cl)).length : Nat) : Int)), (13, 0, .int .i64 ((((tab nc (lim (se + ov) cl)).length : Nat) : Int) - 1)), (7, 0, .int .i64 q_.1), (6, 0, .int .i64 q_.2)]) (fun q_ => [Item.cells b1 [.string nm, .int .i64 se, .int .i64 ov, .slice ac nc cc] 24, Item.own w0.heap.size la nc lc 3 1 (cellsOf encI (tab nc (lim (se + ov) cl))), Item.own w0.heap.size sa ((tab nc (lim (se + ov) cl)).length) sc 3 1 (cellsOf encI (tab nc (spP (se + ov) cl l (q_.1 + 1).toNat)))]) (fun q_ => -1 ≤ q_.1 ∧ q_.1 < n ∧ q_.2 = suf l (q_.1 + 1).toNat) (fun q_ => (q_.1 + 1).toNat) 3 ((((tab nc (lim (se + ov) cl)).length : Int) - 1, 0)) (by
      have q0 := nn hn hnc hr
      simp only [tab_len]
      refine ⟨by omega, by omega, ?_⟩
      rw [suf_end (by omega)]) ⟨rfl, rfl, rfl, rfl, rfl, rfl, rfl, rfl, rfl, rfl, rfl, rfl, rfl, rfl, rfl, rfl, rfl, rfl, rfl, rfl, rfl, rfl, rfl, rfl, rfl, rfl, trivial⟩ (by show [_, _, Item.own _ _ _ _ _ _ _] = [_, _, Item.own _ _ _ _ _ _ _]; congr 4; refine congrArg (cellsOf encI) (tab_congr fun j hj => ?_); simp only [tab_len]; rw [spP, if_pos (by omega)]) ?_
  rintro ⟨k, b⟩ ⟨hk1, hk2, hb⟩
  try dsimp only at *
  refine WC.seq ?_
  refine WC.seq ?_
  refine WC.region ?_
  refine SL.pure rfl rfl rfl (PureOp.move rfl) ?_
  refine SL.pure rfl rfl rfl (PureOp.geq rfl rfl) ?_
  refine SL.nil_then ?_
  refine WC.cond rfl (fun h1 => ?_) (fun h1 => ?_)
  · try simp only [Bool.and_eq_true, Bool.or_eq_true, Bool.not_eq_true', Bool.not_eq_false', Bool.and_eq_false_iff, Bool.or_eq_false_iff, decide_eq_true_eq, decide_eq_false_iff_not, Int.not_lt, Int.not_le, ne_eq, Decidable.not_not] at h1
    refine WC.skip ?_
    refine QX.then_ ?_
    refine WC.seq ?_
    refine WC.block ?_
    refine WC.seq ?_
    refine WC.region ?_
    refine SL.pure rfl rfl rfl (PureOp.move rfl) ?_
    refine SL.pure rfl rfl rfl (PureOp.move rfl) ?_
    refine SL.pure rfl rfl rfl (PureOp.move rfl) ?_
    refine SL.pure rfl rfl rfl (PureOp.indexAddr Try.underlying25 sz3 rfl rfl (AoOk.in_ hs) (fun _ => by (have q0 := nn hn hnc hr; first | omega | (simp only [tab_len, cellsOf_length encI_len]; omega) | (have q1 := suf_bd hr (k + 1).toNat (by omega); have q2 := hr.all k.toNat (by omega); omega) | (have q4 := suf_succ (l := l) (i := k.toNat) (by omega); rw [show k.toNat + 1 = (k + 1).toNat from by omega] at q4; have q1 := suf_bd hr k.toNat (by omega); have q3 := lim_bd hR (i := k.toNat) (by omega); have q5 := hR.s1; have q6 := hR.o1; omega)))) ?_
    refine SL.pure rfl rfl rfl (PureOp.load (v := .int .i64 (nth l ((k).toNat))) Try.underlying3 rfl rfl (fun _ => (CellIs.in_ hs (k).toNat 0 (by (have q0 := nn hn hnc hr; first | omega | (simp only [tab_len, cellsOf_length encI_len]; omega) | (have q1 := suf_bd hr (k + 1).toNat (by omega); have q2 := hr.all k.toNat (by omega); omega) | (have q4 := suf_succ (l := l) (i := k.toNat) (by omega); rw [show k.toNat + 1 = (k + 1).toNat from by omega] at q4; have q1 := suf_bd hr k.toNat (by omega); have q3 := lim_bd hR (i := k.toNat) (by omega); have q5 := hR.s1; have q6 := hR.o1; omega))) (by omega)))) ?_
    refine SL.pure rfl rfl rfl (PureOp.add rfl rfl (fun _ => by (have q0 := nn hn hnc hr; first | omega | (simp only [tab_len, cellsOf_length encI_len]; omega) | (have q1 := suf_bd hr (k + 1).toNat (by omega); have q2 := hr.all k.toNat (by omega); omega) | (have q4 := suf_succ (l := l) (i := k.toNat) (by omega); rw [show k.toNat + 1 = (k + 1).toNat from by omega] at q4; have q1 := suf_bd hr k.toNat (by omega); have q3 := lim_bd hR (i := k.toNat) (by omega); have q5 := hR.s1; have q6 := hR.o1; omega)))) ?_
    refine SL.pure rfl rfl rfl (PureOp.assign rfl) ?_
    refine SL.nil_then ?_
    refine WC.region ?_
    refine SL.pure rfl rfl rfl (PureOp.move rfl) ?_
    refine SL.pure rfl rfl rfl (PureOp.move rfl) ?_
    refine SL.pure rfl rfl rfl (PureOp.indexAddr Try.underlying25 sz3 rfl rfl (AoOk.own 2 rfl) (fun _ => by (have q0 := nn hn hnc hr; first | omega | (simp only [tab_len, cellsOf_length encI_len]; omega) | (have q1 := suf_bd hr (k + 1).toNat (by omega); have q2 := hr.all k.toNat (by omega); omega) | (have q4 := suf_succ (l := l) (i := k.toNat) (by omega); rw [show k.toNat + 1 = (k + 1).toNat from by omega] at q4; have q1 := suf_bd hr k.toNat (by omega); have q3 := lim_bd hR (i := k.toNat) (by omega); have q5 := hR.s1; have q6 := hR.o1; omega)))) ?_
    refine SL.pure rfl rfl rfl (PureOp.load (v := .int .i64 (lim (se + ov) cl k.toNat)) Try.underlying3 rfl rfl (fun _ => (CellIs.ownc 2 rfl (k).toNat 0 (by exact (encI_get (by rw [tab_len]; have q0 := nn hn hnc hr; omega)).trans (by rw [tab_nth _ _ (by have q0 := nn hn hnc hr; omega), spP, if_pos (by omega)]))))) ?_
    refine SL.pure rfl rfl rfl (PureOp.move rfl) ?_
    refine SL.pure rfl rfl rfl (PureOp.sub rfl rfl (fun _ => by (have q0 := nn hn hnc hr; first | omega | (simp only [tab_len, cellsOf_length encI_len]; omega) | (have q1 := suf_bd hr (k + 1).toNat (by omega); have q2 := hr.all k.toNat (by omega); omega) | (have q4 := suf_succ (l := l) (i := k.toNat) (by omega); rw [show k.toNat + 1 = (k + 1).toNat from by omega] at q4; have q1 := suf_bd hr k.toNat (by omega); have q3 := lim_bd hR (i := k.toNat) (by omega); have q5 := hR.s1; have q6 := hR.o1; omega)))) ?_
    refine SL.pure rfl rfl rfl (PureOp.indexAddr Try.underlying25 sz3 rfl rfl (AoOk.own 2 rfl) (fun _ => by (have q0 := nn hn hnc hr; first | omega | (simp only [tab_len, cellsOf_length encI_len]; omega) | (have q1 := suf_bd hr (k + 1).toNat (by omega); have q2 := hr.all k.toNat (by omega); omega) | (have q4 := suf_succ (l := l) (i := k.toNat) (by omega); rw [show k.toNat + 1 = (k + 1).toNat from by omega] at q4; have q1 := suf_bd hr k.toNat (by omega); have q3 := lim_bd hR (i := k.toNat) (by omega); have q5 := hR.s1; have q6 := hR.o1; omega)))) ?_
    refine SL.storeown (k := ((k).toNat)) (j := 0) 2 rfl rfl rfl rfl sz3 (by (rw [cellsOf_length encI_len, tab_len]; have q0 := nn hn hnc hr; omega)) rfl ?_
    refine SL.itemxs 2 rfl (show _ = cellsOf encI (tab nc (spP (se + ov) cl l (k - 1 + 1).toNat)) from by
        have q0 := nn hn hnc hr
        rw [encI_set (by rw [tab_len]; omega), tab_set]
        refine congrArg (cellsOf encI) (tab_congr fun j hj => ?_)
        have q1 : suf l k.toNat = nth l k.toNat + suf l (k + 1).toNat := by
          rw [show (k + 1).toNat = k.toNat + 1 from by omega]
          exact suf_succ (by omega)
        by_cases e : j = k.toNat
        · rw [if_pos e, spP, if_neg (by omega), e, sp, q1, hb]; omega
        · rw [if_neg e]
          unfold spP
          by_cases e2 : j < k.toNat
          · rw [if_pos (by omega), if_pos (by omega)]
          · rw [if_neg (by omega), if_neg (by omega)]) ?_
    refine SL.nil ?_
    refine QX.normal_in ?_
    refine QX.then_ ?_
    refine WC.region ?_
    refine SL.pure rfl rfl rfl (PureOp.move rfl) ?_
    refine SL.pure rfl rfl rfl (PureOp.sub rfl rfl (fun _ => by (have q0 := nn hn hnc hr; first | omega | (simp only [tab_len, cellsOf_length encI_len]; omega) | (have q1 := suf_bd hr (k + 1).toNat (by omega); have q2 := hr.all k.toNat (by omega); omega) | (have q4 := suf_succ (l := l) (i := k.toNat) (by omega); rw [show k.toNat + 1 = (k + 1).toNat from by omega] at q4; have q1 := suf_bd hr k.toNat (by omega); have q3 := lim_bd hR (i := k.toNat) (by omega); have q5 := hR.s1; have q6 := hR.o1; omega)))) ?_
    refine SL.pure rfl rfl rfl (PureOp.assign rfl) ?_
    refine SL.nil ?_
    refine QX.round (σ := Int × Int) (Ef := fun q_ => [(0, 0, .agg #[.string nm, .int .i64 se, .int .i64 ov, .slice ac nc cc]), (1, 0, .slice ao n cap), (2, 0, .pointer (some ⟨b1, 0, none⟩)), (4, 0, .slice none 0 0), (5, 0, .slice sa ((tab nc (lim (se + ov) cl)).length) sc), (8, 0, .agg #[.string nm, .int .i64 se, .int .i64 ov, .slice ac nc cc]), (9, 0, .slice la nc lc), (10, 0, .slice sa ((tab nc (lim (se + ov) cl)).length) sc), (11, 0, .slice sa ((tab nc (lim (se + ov) cl)).length) sc), (12, 0, .int .i64 (((tab nc (lim (se + ov) cl)).length : Nat) : Int)), (13, 0, .int .i64 ((((tab nc (lim (se + ov) cl)).length : Nat) : Int) - 1)), (7, 0, .int .i64 q_.1), (6, 0, .int .i64 q_.2)]) (Hf := fun q_ => [Item.cells b1 [.string nm, .int .i64 se, .int .i64 ov, .slice ac nc cc] 24, Item.own w0.heap.size la nc lc 3 1 (cellsOf encI (tab nc (lim (se + ov) cl))), Item.own w0.heap.size sa ((tab nc (lim (se + ov) cl)).length) sc 3 1 (cellsOf encI (tab nc (spP (se + ov) cl l (q_.1 + 1).toNat)))]) (I := fun q_ => -1 ≤ q_.1 ∧ q_.1 < n ∧ q_.2 = suf l (q_.1 + 1).toNat) (μ := fun q_ => (q_.1 + 1).toNat) (s := (k, b)) 3 ((k - 1, b + nth l k.toNat)) ⟨⟨(by first | omega | (dsimp only; omega)), (by first | omega | (dsimp only; omega)), by show b + nth l k.toNat = suf l (k - 1 + 1).toNat; rw [show (k - 1 + 1).toNat = k.toNat from by omega, suf_succ (by omega), hb, show (k + 1).toNat = k.toNat + 1 from by omega]; omega⟩, by first | omega | (dsimp only; omega)⟩ ⟨rfl, rfl, rfl, rfl, rfl, rfl, rfl, rfl, rfl, rfl, rfl, rfl, rfl, rfl, rfl, rfl, rfl, rfl, rfl, rfl, rfl, rfl, rfl, rfl, rfl, rfl, trivial⟩ rfl
  · try simp only [Bool.and_eq_true, Bool.or_eq_true, Bool.not_eq_true', Bool.not_eq_false', Bool.and_eq_false_iff, Bool.or_eq_false_iff, decide_eq_true_eq, decide_eq_false_iff_not, Int.not_lt, Int.not_le, ne_eq, Decidable.not_not] at h1
    refine WC.exit ?_
    refine QX.exit_then ?_
    refine QX.exit_then ?_
    refine QX.exit_hit ?_
    refine QX.then_ ?_
    refine WC.seq ?_
    refine WC.region ?_
    refine SL.pure rfl rfl rfl (PureOp.move rfl) ?_
    refine SL.pure rfl rfl rfl (PureOp.assign rfl) ?_
    refine SL.nil_then ?_
    refine WC.ret ?_
    refine QX.ret1 rfl rfl ?_
    intro w hw
    have q0 := nn hn hnc hr
    subst q0
    obtain rfl : k = -1 := by omega
    have h := hw.mem (i := 2) rfl
    rw [tab_len] at h ⊢
    rw [show tab n (spP (se + ov) cl l (-1 + 1 : Int).toNat) = tab n (sp (se + ov) cl l) from tab_congr fun j hj => by rw [spP, if_neg (by omega)]] at h
    exact ⟨_, _, rfl, h⟩

set_option maxHeartbeats 4000000 in
set_option maxRecDepth 100000 in
theorem open_ok (nm : ByteArray) (se ov : Int) (cl : List Cl) (ac : Option Addr) (nc cc : Nat) (hnc : nc = cl.length) (hcb : nc ≤ 30) (l : List Int) (ao : Option Addr) (n cap : Nat) (hn : n = l.length) (hnb : n ≤ 1000) (w0 : World) (hs : SliceIn w0 1 ao n cap (rowsF encI l)) (hc : SliceIn w0 2 ac nc cc (rowsF enc47 cl)) (hR : Rt se ov cl) : FnC Try.prog 11 [.agg #[.string nm, .int .i64 se, .int .i64 ov, .slice ac nc cc], .slice ao n cap] w0 fun v w' => ∃ a c, v = .slice a (openL (se + ov) cl l).length c ∧ w'.ownsRow w0.heap.size 3 1 (.slice a (openL (se + ov) cl l).length c) (openL (se + ov) cl l).length (cellsOf encI (openL (se + ov) cl l)) := by
  refine fnc (N := 33) Try.func11 rfl rfl rfl ?_
  refine WC.seq ?_
  refine WC.region ?_
  refine SL.box rfl rfl rfl (fun b1 hb1 => ?_)
  refine SL.pure rfl rfl rfl (PureOp.assign rfl) ?_
  refine SL.nil_then ?_
  refine WC.seq ?_
  refine WC.seq ?_
  refine WC.region ?_
  refine SL.pure rfl rfl rfl (PureOp.loads (vs := [.string nm, .int .i64 se, .int .i64 ov, .slice ac nc cc]) Try.underlying24 rfl rfl (fun _ => (RowIs.cells 0 0 4 rfl rfl)) sz24) ?_
  refine SL.pure rfl rfl rfl (PureOp.move rfl) ?_
  refine SL.calle rfl rfl rfl rfl rfl rfl callable23 (fun w hw => right_ok nm se ov cl ac nc cc hnc hcb l ao n cap hn hnb w (hs.below hw.below) (hc.below hw.below)) ?_
  refine SL.pure rfl rfl rfl (PureOp.not rfl) ?_
  refine SL.nil_then ?_
  refine WC.cond rfl (fun h1 => ?_) (fun h1 => ?_)
  · try simp only [Bool.and_eq_true, Bool.or_eq_true, Bool.not_eq_true', Bool.not_eq_false', Bool.and_eq_false_iff, Bool.or_eq_false_iff, decide_eq_true_eq, decide_eq_false_iff_not, Int.not_lt, Int.not_le, ne_eq, Decidable.not_not] at h1
    refine WC.seq ?_
    refine WC.region ?_
    refine SL.pure rfl rfl rfl (PureOp.assign rfl) ?_
    refine SL.nil_then ?_
    refine WC.ret ?_
    refine QX.ret_then ?_
    refine QX.ret1 rfl rfl ?_
    intro w hw
    have q : rightB cl l = false := by assumption
    rw [openL, if_neg (by rw [q]; simp)]
    exact ⟨none, 0, rfl, ownsRow_nil⟩
  · try simp only [Bool.and_eq_true, Bool.or_eq_true, Bool.not_eq_true', Bool.not_eq_false', Bool.and_eq_false_iff, Bool.or_eq_false_iff, decide_eq_true_eq, decide_eq_false_iff_not, Int.not_lt, Int.not_le, ne_eq, Decidable.not_not] at h1
    have hr : Right cl l := right_iff.1 (by assumption)
    refine WC.skip ?_
    refine QX.then_ ?_
    refine WC.seq ?_
    refine WC.region ?_
    refine SL.pure rfl rfl rfl (PureOp.loads (vs := [.string nm, .int .i64 se, .int .i64 ov, .slice ac nc cc]) Try.underlying24 rfl rfl (fun _ => (RowIs.cells 0 0 4 rfl rfl)) sz24) ?_
    refine SL.pure rfl rfl rfl (PureOp.move rfl) ?_
    refine SL.callo (fun sa sc => .slice sa n sc) rfl rfl rfl rfl rfl rfl callable24 (fun w hw => spare_ok nm se ov cl ac nc cc hnc hcb l ao n cap hn hnb w (hs.below hw.below) (hc.below hw.below) hR hr) (fun sa sc => ?_)
    refine SL.pure rfl rfl rfl (PureOp.assign rfl) ?_
    refine SL.nil_then ?_
    refine WC.seq ?_
    refine WC.region ?_
    refine SL.pure rfl rfl rfl (PureOp.assign rfl) ?_
    refine SL.nil_then ?_
    refine WC.seq ?_
    refine WC.seq ?_
    refine WC.region ?_
    refine SL.pure rfl rfl rfl (PureOp.move rfl) ?_
    refine SL.pure rfl rfl rfl (PureOp.len rfl Try.underlying25) ?_
    refine SL.pure rfl rfl rfl (PureOp.move rfl) ?_
    refine SL.nil_then ?_
    refine WC.block ?_
    refine WC.loop (σ := Nat × Int) (fun q_ => [(0, 0, .agg #[.string nm, .int .i64 se, .int .i64 ov, .slice ac nc cc]), (1, 0, .slice ao n cap), (2, 0, .pointer (some ⟨b1, 0, none⟩)), (4, 0, .slice none 0 0), (5, 0, .slice sa n sc), (9, 0, .agg #[.string nm, .int .i64 se, .int .i64 ov, .slice ac nc cc]), (10, 0, .slice ao n cap), (11, 0, .bool (rightB cl l)), (12, 0, .bool (!(rightB cl l))), (13, 0, .agg #[.string nm, .int .i64 se, .int .i64 ov, .slice ac nc cc]), (14, 0, .slice ao n cap), (15, 0, .slice sa n sc), (16, 0, .slice sa n sc), (17, 0, .int .i64 ((n : Nat) : Int)), (18, 0, .int .i64 ((q_.1 : Nat) : Int)), (6, 0, .int .i64 q_.2)]) (fun q_ => [Item.cells b1 [.string nm, .int .i64 se, .int .i64 ov, .slice ac nc cc] 24, Item.own w0.heap.size sa n sc 3 1 (cellsOf encI (tab n (fun j => if j < q_.1 then opn (se + ov) cl l j else sp (se + ov) cl l j)))]) (fun q_ => q_.1 ≤ n ∧ (q_.1 < n → min q_.2 (sp (se + ov) cl l q_.1) = mn (sp (se + ov) cl l) q_.1)) (fun q_ => n - q_.1) 2 ((0, 1099511627776)) (⟨Nat.zero_le _, fun h => by have q := sp_bd hR hr (i := 0) (by omega); show min 1099511627776 (sp (se + ov) cl l 0) = sp (se + ov) cl l 0; omega⟩) ⟨rfl, rfl, rfl, rfl, rfl, rfl, rfl, rfl, rfl, rfl, rfl, rfl, rfl, rfl, rfl, rfl, rfl, rfl, rfl, rfl, rfl, rfl, rfl, rfl, rfl, rfl, rfl, rfl, rfl, rfl, rfl, rfl, trivial⟩ (by show [_, Item.own _ _ _ _ _ _ _] = [_, Item.own _ _ _ _ _ _ _]; congr 3) ?_
    rintro ⟨k, m⟩ ⟨hk, hm0⟩
    try dsimp only at *
    refine WC.seq ?_
    refine WC.region ?_
    refine SL.pure rfl rfl rfl (PureOp.lss rfl rfl) ?_
    refine SL.nil_then ?_
    refine WC.seq ?_
    refine WC.cond rfl (fun h2 => ?_) (fun h2 => ?_)
    · try simp only [decide_eq_true_eq] at h2
      have hm := hm0 (by omega)
      refine WC.skip ?_
      refine QX.then_ ?_
      refine WC.seq ?_
      refine WC.block ?_
      refine WC.seq ?_
      refine WC.region ?_
      refine SL.pure rfl rfl rfl (PureOp.move rfl) ?_
      refine SL.pure rfl rfl rfl (PureOp.indexAddrN Try.underlying25 sz3 rfl rfl (AoOk.own 1 rfl) (fun _ => by (first | omega | (simp only [tab_len, cellsOf_length encI_len]; omega)))) ?_
      refine SL.pure rfl rfl rfl (PureOp.load (v := .int .i64 (sp (se + ov) cl l k)) Try.underlying3 rfl rfl (fun _ => (CellIs.ownc 1 rfl k 0 (by exact (encI_get (by rw [tab_len]; omega)).trans (by rw [tab_nth _ _ (by omega), if_neg (by omega)]))))) ?_
      refine SL.pure rfl rfl rfl (PureOp.assign rfl) ?_
      refine SL.pure rfl rfl rfl (PureOp.assign rfl) ?_
      refine SL.nil_then ?_
      refine WC.seq ?_
      refine WC.region ?_
      refine SL.pure rfl rfl rfl (PureOp.move rfl) ?_
      refine SL.pure rfl rfl rfl (PureOp.move rfl) ?_
      refine SL.pure rfl rfl rfl (PureOp.min_ rfl rfl) ?_
      refine SL.pure rfl rfl rfl (PureOp.assign rfl) ?_
      refine SL.nil_then ?_
      refine WC.region ?_
      refine SL.pure rfl rfl rfl (PureOp.move rfl) ?_
      refine SL.pure rfl rfl rfl (PureOp.move rfl) ?_
      refine SL.pure rfl rfl rfl (PureOp.move rfl) ?_
      refine SL.pure rfl rfl rfl (PureOp.max_ rfl rfl) ?_
      refine SL.pure rfl rfl rfl (PureOp.indexAddrN Try.underlying25 sz3 rfl rfl (AoOk.own 1 rfl) (fun _ => by (first | omega | (simp only [tab_len, cellsOf_length encI_len]; omega)))) ?_
      refine SL.storeown (k := k) (j := 0) 1 rfl rfl rfl rfl sz3 (by (rw [cellsOf_length encI_len, tab_len]; omega)) rfl ?_
      refine SL.itemxs 1 rfl (show _ = cellsOf encI (tab n (fun j => if j < k + 1 then opn (se + ov) cl l j else sp (se + ov) cl l j)) from by
          rw [encI_set (by rw [tab_len]; omega), tab_set]
          refine congrArg (cellsOf encI) (tab_congr fun j hj => ?_)
          by_cases e : j = k
          · subst e; rw [if_pos rfl, if_pos (by omega), opn, hm]
          · rw [if_neg e]
            by_cases e2 : j < k
            · rw [if_pos e2, if_pos (by omega)]
            · rw [if_neg e2, if_neg (by omega)]) ?_
      refine SL.nil ?_
      refine QX.normal_in ?_
      refine QX.then_ ?_
      refine WC.region ?_
      refine SL.pure rfl rfl rfl (PureOp.addN (k := 1) rfl rfl (fun _ => by (first | omega | (simp only [tab_len, cellsOf_length encI_len]; omega)))) ?_
      refine SL.pure rfl rfl rfl (PureOp.move rfl) ?_
      refine SL.nil ?_
      refine QX.round (σ := Nat × Int) (Ef := fun q_ => [(0, 0, .agg #[.string nm, .int .i64 se, .int .i64 ov, .slice ac nc cc]), (1, 0, .slice ao n cap), (2, 0, .pointer (some ⟨b1, 0, none⟩)), (4, 0, .slice none 0 0), (5, 0, .slice sa n sc), (9, 0, .agg #[.string nm, .int .i64 se, .int .i64 ov, .slice ac nc cc]), (10, 0, .slice ao n cap), (11, 0, .bool (rightB cl l)), (12, 0, .bool (!(rightB cl l))), (13, 0, .agg #[.string nm, .int .i64 se, .int .i64 ov, .slice ac nc cc]), (14, 0, .slice ao n cap), (15, 0, .slice sa n sc), (16, 0, .slice sa n sc), (17, 0, .int .i64 ((n : Nat) : Int)), (18, 0, .int .i64 ((q_.1 : Nat) : Int)), (6, 0, .int .i64 q_.2)]) (Hf := fun q_ => [Item.cells b1 [.string nm, .int .i64 se, .int .i64 ov, .slice ac nc cc] 24, Item.own w0.heap.size sa n sc 3 1 (cellsOf encI (tab n (fun j => if j < q_.1 then opn (se + ov) cl l j else sp (se + ov) cl l j)))]) (I := fun q_ => q_.1 ≤ n ∧ (q_.1 < n → min q_.2 (sp (se + ov) cl l q_.1) = mn (sp (se + ov) cl l) q_.1)) (μ := fun q_ => n - q_.1) (s := (k, m)) 2 ((k + 1, min m (sp (se + ov) cl l k))) ⟨⟨(by first | omega | (dsimp only; omega)), fun h => by show min (min m (sp (se + ov) cl l k)) (sp (se + ov) cl l (k + 1)) = _; rw [hm]; rfl⟩, by first | omega | (dsimp only; omega)⟩ ⟨rfl, rfl, rfl, rfl, rfl, rfl, rfl, rfl, rfl, rfl, rfl, rfl, rfl, rfl, rfl, rfl, rfl, rfl, rfl, rfl, rfl, rfl, rfl, rfl, rfl, rfl, rfl, rfl, rfl, rfl, rfl, rfl, trivial⟩ rfl
    · try simp only [Bool.and_eq_true, Bool.or_eq_true, Bool.not_eq_true', Bool.not_eq_false', Bool.and_eq_false_iff, Bool.or_eq_false_iff, decide_eq_true_eq, decide_eq_false_iff_not, Int.not_lt, Int.not_le, ne_eq, Decidable.not_not] at h2
      refine WC.exit ?_
      refine QX.exit_then ?_
      refine QX.exit_then ?_
      refine QX.exit_hit ?_
      refine QX.then_ ?_
      refine WC.seq ?_
      refine WC.region ?_
      refine SL.pure rfl rfl rfl (PureOp.move rfl) ?_
      refine SL.pure rfl rfl rfl (PureOp.assign rfl) ?_
      refine SL.nil_then ?_
      refine WC.ret ?_
      refine QX.ret1 rfl rfl ?_
      intro w hw
      obtain rfl : k = n := by omega
      have h := hw.mem (i := 1) rfl
      rw [show (tab k fun j => if j < k then opn (se + ov) cl l j else sp (se + ov) cl l j) = tab k (opn (se + ov) cl l) from tab_congr fun j hj => by rw [if_pos hj]] at h
      rw [openL, if_pos (right_iff.2 hr), ← hn, tab_len]
      exact ⟨_, _, rfl, h⟩

theorem open_r (nm : ByteArray) (se ov : Int) (cl : List Cl) (ac : Option Addr) (nc cc : Nat) (hnc : nc = cl.length) (hcb : nc ≤ 30) (l : List Int) (ao : Option Addr) (n cap : Nat) (hn : n = l.length) (hnb : n ≤ 1000) (w0 : World) (hs : SliceIn w0 1 ao n cap (rowsF encI l)) (hc : SliceIn w0 2 ac nc cc (rowsF enc47 cl)) (hR : Rt se ov cl) (hr : Right cl l) : FnC Try.prog 11 [.agg #[.string nm, .int .i64 se, .int .i64 ov, .slice ac nc cc], .slice ao n cap] w0 fun v w' => ∃ a c, v = .slice a n c ∧ w'.ownsRow w0.heap.size 3 1 (.slice a n c) n (cellsOf encI (tab n (opn (se + ov) cl l))) := by
  have h := open_ok nm se ov cl ac nc cc hnc hcb l ao n cap hn hnb w0 hs hc hR
  rw [openL, if_pos (right_iff.2 hr), tab_len, ← hn] at h
  exact h
end Go.Proofs.Ytblgllngkbjfgaa
