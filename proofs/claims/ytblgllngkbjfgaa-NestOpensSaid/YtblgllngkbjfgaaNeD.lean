import Derived.Test.YtblgllngkbjfgaaNeC
namespace Go.Proofs.Ytblgllngkbjfgaa
open Go Go.RowKit Eng
set_option linter.unusedVariables false
set_option linter.unusedSimpArgs false

set_option maxHeartbeats 4000000 in
set_option maxRecDepth 100000 in
theorem over_ok (nm : ByteArray) (se ov : Int) (cl : List Cl) (ac : Option Addr) (nc cc : Nat) (hnc : nc = cl.length) (hcb : nc ≤ 30) (l : List Int) (ao : Option Addr) (n cap : Nat) (hn : n = l.length) (hnb : n ≤ 1000) (w0 : World) (hs : SliceIn w0 1 ao n cap (rowsF encI l)) (hc : SliceIn w0 2 ac nc cc (rowsF enc47 cl)) (hR : Rt se ov cl) (hr : Right cl l) (i : Nat) (hi : i < n) : FnC Try.prog 26 [.agg #[.string nm, .int .i64 se, .int .i64 ov, .slice ac nc cc], .slice ao n cap, .int .i64 ((i : Nat) : Int)] w0 fun v w' => v = .int .i64 (-(sp (se + ov) cl l i)) := by
  refine fnc (N := 29) Try.func26 rfl rfl rfl ?_
  refine WC.seq ?_
  refine WC.region ?_
  refine SL.box rfl rfl rfl (fun b1 hb1 => ?_)
  refine SL.pure rfl rfl rfl (PureOp.assign rfl) ?_
  refine SL.nil_then ?_
  refine WC.seq ?_
  refine WC.region ?_
  refine SL.pure rfl rfl rfl (PureOp.loads (vs := [.string nm, .int .i64 se, .int .i64 ov, .slice ac nc cc]) Try.underlying24 rfl rfl (fun _ => (RowIs.cells 0 0 4 rfl rfl)) sz24) ?_
  refine SL.callo (fun la lc => .slice la nc lc) rfl rfl rfl rfl rfl rfl callable37 (fun w hw => rlimits_ok nm se ov cl ac nc cc hnc hcb w (hc.below hw.below) hR) (fun la lc => ?_)
  refine SL.pure rfl rfl rfl (PureOp.move rfl) ?_
  refine SL.pure rfl rfl rfl (PureOp.indexAddrN Try.underlying25 sz3 rfl rfl (AoOk.own 1 rfl) (fun _ => by (have q0 := nn hn hnc hr; first | omega | (have q3 := lim_bd hR (i := i) (by omega); have q5 := hR.s1; have q6 := hR.o1; have q7 := suf_bd hr i (by omega); first | omega | (have q8 := hr.all k (by omega); have q9 := suf_bd hr k (by omega); omega))))) ?_
  refine SL.pure rfl rfl rfl (PureOp.load (v := .int .i64 (lim (se + ov) cl i)) Try.underlying3 rfl rfl (fun _ => (CellIs.ownc 1 rfl i 0 (by exact (encI_get (by rw [tab_len]; have q0 := nn hn hnc hr; omega)).trans (by rw [tab_nth _ _ (by have q0 := nn hn hnc hr; omega)]))))) ?_
  refine SL.pure rfl rfl rfl (PureOp.neg rfl (fun _ => by (have q0 := nn hn hnc hr; first | omega | (have q3 := lim_bd hR (i := i) (by omega); have q5 := hR.s1; have q6 := hR.o1; have q7 := suf_bd hr i (by omega); first | omega | (have q8 := hr.all k (by omega); have q9 := suf_bd hr k (by omega); omega))))) ?_
  refine SL.pure rfl rfl rfl (PureOp.assign rfl) ?_
  refine SL.nil_then ?_
  refine WC.seq ?_
  refine WC.seq ?_
  refine WC.region ?_
  refine SL.pure rfl rfl rfl (PureOp.move rfl) ?_
  refine SL.pure rfl rfl rfl (PureOp.assign rfl) ?_
  refine SL.nil_then ?_
  refine WC.block ?_
  refine WC.loop (σ := Nat × Int) (fun q_ => [(0, 0, .agg #[.string nm, .int .i64 se, .int .i64 ov, .slice ac nc cc]), (1, 0, .slice ao n cap), (2, 0, .int .i64 ((i : Nat) : Int)), (3, 0, .pointer (some ⟨b1, 0, none⟩)), (6, 0, .int .i64 0), (9, 0, .agg #[.string nm, .int .i64 se, .int .i64 ov, .slice ac nc cc]), (10, 0, .slice la nc lc), (11, 0, .int .i64 ((i : Nat) : Int)), (12, 0, .pointer (some ⟨blk la, off la + i * 1, none⟩)), (13, 0, .int .i64 (lim (se + ov) cl i)), (14, 0, .int .i64 (-(lim (se + ov) cl i))), (15, 0, .int .i64 ((i : Nat) : Int)), (8, 0, .int .i64 ((q_.1 : Nat) : Int)), (7, 0, .int .i64 q_.2)]) (fun q_ => [Item.cells b1 [.string nm, .int .i64 se, .int .i64 ov, .slice ac nc cc] 24, Item.own w0.heap.size la nc lc 3 1 (cellsOf encI (tab nc (lim (se + ov) cl)))]) (fun q_ => i ≤ q_.1 ∧ q_.1 ≤ n ∧ q_.2 = suf l i - suf l q_.1 - lim (se + ov) cl i) (fun q_ => n - q_.1) 2 ((i, -lim (se + ov) cl i)) (⟨Nat.le_refl _, by show i ≤ n; omega, by show -lim (se + ov) cl i = suf l i - suf l i - lim (se + ov) cl i; omega⟩) ⟨rfl, rfl, rfl, rfl, rfl, rfl, rfl, rfl, rfl, rfl, rfl, rfl, rfl, rfl, rfl, rfl, rfl, rfl, rfl, rfl, rfl, rfl, rfl, rfl, rfl, rfl, rfl, rfl, trivial⟩ rfl ?_
  rintro ⟨k, m⟩ ⟨hk1, hk2, hm⟩
  try dsimp only at *
  refine WC.seq ?_
  refine WC.seq ?_
  refine WC.region ?_
  refine SL.pure rfl rfl rfl (PureOp.move rfl) ?_
  refine SL.pure rfl rfl rfl (PureOp.move rfl) ?_
  refine SL.pure rfl rfl rfl (PureOp.len rfl Try.underlying25) ?_
  refine SL.pure rfl rfl rfl (PureOp.lss rfl rfl) ?_
  refine SL.nil_then ?_
  refine WC.cond rfl (fun h1 => ?_) (fun h1 => ?_)
  · try simp only [Bool.and_eq_true, Bool.or_eq_true, Bool.not_eq_true', Bool.not_eq_false', Bool.and_eq_false_iff, Bool.or_eq_false_iff, decide_eq_true_eq, decide_eq_false_iff_not, Int.not_lt, Int.not_le, ne_eq, Decidable.not_not] at h1
    refine WC.skip ?_
    refine QX.then_ ?_
    refine WC.seq ?_
    refine WC.block ?_
    refine WC.region ?_
    refine SL.pure rfl rfl rfl (PureOp.move rfl) ?_
    refine SL.pure rfl rfl rfl (PureOp.move rfl) ?_
    refine SL.pure rfl rfl rfl (PureOp.move rfl) ?_
    refine SL.pure rfl rfl rfl (PureOp.indexAddrN Try.underlying25 sz3 rfl rfl (AoOk.in_ hs) (fun _ => by (have q0 := nn hn hnc hr; first | omega | (have q3 := lim_bd hR (i := i) (by omega); have q5 := hR.s1; have q6 := hR.o1; have q7 := suf_bd hr i (by omega); first | omega | (have q8 := hr.all k (by omega); have q9 := suf_bd hr k (by omega); omega))))) ?_
    refine SL.pure rfl rfl rfl (PureOp.load (v := .int .i64 (nth l k)) Try.underlying3 rfl rfl (fun _ => (CellIs.in_ hs k 0 (by (have q0 := nn hn hnc hr; first | omega | (have q3 := lim_bd hR (i := i) (by omega); have q5 := hR.s1; have q6 := hR.o1; have q7 := suf_bd hr i (by omega); first | omega | (have q8 := hr.all k (by omega); have q9 := suf_bd hr k (by omega); omega)))) (by omega)))) ?_
    refine SL.pure rfl rfl rfl (PureOp.add rfl rfl (fun _ => by (have q0 := nn hn hnc hr; first | omega | (have q3 := lim_bd hR (i := i) (by omega); have q5 := hR.s1; have q6 := hR.o1; have q7 := suf_bd hr i (by omega); first | omega | (have q8 := hr.all k (by omega); have q9 := suf_bd hr k (by omega); omega))))) ?_
    refine SL.pure rfl rfl rfl (PureOp.assign rfl) ?_
    refine SL.nil ?_
    refine QX.normal_in ?_
    refine QX.then_ ?_
    refine WC.region ?_
    refine SL.pure rfl rfl rfl (PureOp.move rfl) ?_
    refine SL.pure rfl rfl rfl (PureOp.addN (k := 1) rfl rfl (fun _ => by (have q0 := nn hn hnc hr; first | omega | (have q3 := lim_bd hR (i := i) (by omega); have q5 := hR.s1; have q6 := hR.o1; have q7 := suf_bd hr i (by omega); first | omega | (have q8 := hr.all k (by omega); have q9 := suf_bd hr k (by omega); omega))))) ?_
    refine SL.pure rfl rfl rfl (PureOp.assign rfl) ?_
    refine SL.nil ?_
    refine QX.round (σ := Nat × Int) (Ef := fun q_ => [(0, 0, .agg #[.string nm, .int .i64 se, .int .i64 ov, .slice ac nc cc]), (1, 0, .slice ao n cap), (2, 0, .int .i64 ((i : Nat) : Int)), (3, 0, .pointer (some ⟨b1, 0, none⟩)), (6, 0, .int .i64 0), (9, 0, .agg #[.string nm, .int .i64 se, .int .i64 ov, .slice ac nc cc]), (10, 0, .slice la nc lc), (11, 0, .int .i64 ((i : Nat) : Int)), (12, 0, .pointer (some ⟨blk la, off la + i * 1, none⟩)), (13, 0, .int .i64 (lim (se + ov) cl i)), (14, 0, .int .i64 (-(lim (se + ov) cl i))), (15, 0, .int .i64 ((i : Nat) : Int)), (8, 0, .int .i64 ((q_.1 : Nat) : Int)), (7, 0, .int .i64 q_.2)]) (Hf := fun q_ => [Item.cells b1 [.string nm, .int .i64 se, .int .i64 ov, .slice ac nc cc] 24, Item.own w0.heap.size la nc lc 3 1 (cellsOf encI (tab nc (lim (se + ov) cl)))]) (I := fun q_ => i ≤ q_.1 ∧ q_.1 ≤ n ∧ q_.2 = suf l i - suf l q_.1 - lim (se + ov) cl i) (μ := fun q_ => n - q_.1) (s := (k, m)) 2 ((k + 1, m + nth l k)) ⟨⟨(by first | omega | (dsimp only; omega)), (by first | omega | (dsimp only; omega)), by show m + nth l k = suf l i - suf l (k + 1) - lim (se + ov) cl i; rw [hm, suf_succ (i := k) (by omega)]; omega⟩, by first | omega | (dsimp only; omega)⟩ ⟨rfl, rfl, rfl, rfl, rfl, rfl, rfl, rfl, rfl, rfl, rfl, rfl, rfl, rfl, rfl, rfl, rfl, rfl, rfl, rfl, rfl, rfl, rfl, rfl, rfl, rfl, rfl, rfl, trivial⟩ rfl
  · try simp only [Bool.and_eq_true, Bool.or_eq_true, Bool.not_eq_true', Bool.not_eq_false', Bool.and_eq_false_iff, Bool.or_eq_false_iff, decide_eq_true_eq, decide_eq_false_iff_not, Int.not_lt, Int.not_le, ne_eq, Decidable.not_not] at h1
    refine WC.exit ?_
    refine QX.exit_then ?_
    refine QX.exit_then ?_
    refine QX.exit_hit ?_
    refine QX.then_ ?_
    refine WC.seq ?_
    refine WC.region ?_
    refine SL.pure rfl rfl rfl (PureOp.move rfl) ?_
    refine SL.pure rfl rfl rfl (PureOp.assign rfl) ?_
    refine SL.nil_then ?_
    refine WC.ret ?_
    refine QX.ret1 rfl rfl ?_
    intro w hw
    obtain rfl : k = n := by omega
    rw [hm, suf_end (i := k) (by omega), sp]
    refine congrArg (Value.int .i64) ?_
    omega

set_option maxHeartbeats 4000000 in
set_option maxRecDepth 100000 in
theorem ropen_ok (nm : ByteArray) (se ov : Int) (cl : List Cl) (ac : Option Addr) (nc cc : Nat) (hnc : nc = cl.length) (hcb : nc ≤ 30) (l : List Int) (ao : Option Addr) (n cap : Nat) (hn : n = l.length) (hnb : n ≤ 1000) (w0 : World) (hs : SliceIn w0 1 ao n cap (rowsF encI l)) (hc : SliceIn w0 2 ac nc cc (rowsF enc47 cl)) (hR : Rt se ov cl) : FnC Try.prog 12 [.agg #[.string nm, .int .i64 se, .int .i64 ov, .slice ac nc cc], .slice ao n cap] w0 fun v w' => ∃ a c, v = .slice a (openL (se + ov) cl l).length c ∧ w'.ownsRow w0.heap.size 3 1 (.slice a (openL (se + ov) cl l).length c) (openL (se + ov) cl l).length (cellsOf encI (openL (se + ov) cl l)) := by
  refine fnc (N := 43) Try.func12 rfl rfl rfl ?_
  refine WC.seq ?_
  refine WC.region ?_
  refine SL.box rfl rfl rfl (fun b1 hb1 => ?_)
  refine SL.pure rfl rfl rfl (PureOp.assign rfl) ?_
  refine SL.nil_then ?_
  refine WC.seq ?_
  refine WC.region ?_
  refine SL.addnil 3 1 ?_
  refine SL.pure rfl rfl rfl (PureOp.assign rfl) ?_
  refine SL.nil_then ?_
  refine WC.seq ?_
  refine WC.seq ?_
  refine WC.region ?_
  refine SL.pure rfl rfl rfl (PureOp.assign rfl) ?_
  refine SL.nil_then ?_
  refine WC.block ?_
  refine WC.loop (σ := Nat × Option Addr × Nat) (fun q_ => [(0, 0, .agg #[.string nm, .int .i64 se, .int .i64 ov, .slice ac nc cc]), (1, 0, .slice ao n cap), (2, 0, .pointer (some ⟨b1, 0, none⟩)), (4, 0, .slice none 0 0), (6, 0, .int .i64 ((q_.1 : Nat) : Int)), (5, 0, .slice q_.2.1 q_.1 q_.2.2)]) (fun q_ => [Item.cells b1 [.string nm, .int .i64 se, .int .i64 ov, .slice ac nc cc] 24, Item.own w0.heap.size q_.2.1 q_.1 q_.2.2 3 1 (cellsOf encI (tab q_.1 (opn (se + ov) cl l)))]) (fun q_ => (q_.1 = 0 ∨ rightB cl l = true) ∧ q_.1 ≤ n) (fun q_ => n - q_.1) 2 ((0, none, 0)) (⟨.inl rfl, Nat.zero_le _⟩) ⟨rfl, rfl, rfl, rfl, rfl, rfl, rfl, rfl, rfl, rfl, rfl, rfl, trivial⟩ rfl ?_
  rintro ⟨k, a, c⟩ ⟨hk0, hk⟩
  try dsimp only at *
  refine WC.seq ?_
  refine WC.seq ?_
  refine WC.region ?_
  refine SL.pure rfl rfl rfl (PureOp.loads (vs := [.string nm, .int .i64 se, .int .i64 ov, .slice ac nc cc]) Try.underlying24 rfl rfl (fun _ => (RowIs.cells 0 0 4 rfl rfl)) sz24) ?_
  refine SL.pure rfl rfl rfl (PureOp.move rfl) ?_
  refine SL.calle rfl rfl rfl rfl rfl rfl callable25 (fun w hw => rright_ok nm se ov cl ac nc cc hnc hcb l ao n cap hn hnb w (hs.below hw.below) (hc.below hw.below)) ?_
  refine SL.pure rfl rfl rfl (PureOp.move rfl) ?_
  refine SL.newg 12 true rfl ?_
  refine SL.gpure (c := 1) rfl rfl rfl rfl rfl rfl rfl (PureOp.move rfl) ?_
  refine SL.gpure (c := 1) rfl rfl rfl rfl rfl rfl rfl (PureOp.move rfl) ?_
  refine SL.gpure (c := 1) rfl rfl rfl rfl rfl rfl rfl (PureOp.len rfl Try.underlying25) ?_
  refine SL.gpure (c := 1) rfl rfl rfl rfl rfl rfl rfl (PureOp.lss rfl rfl) ?_
  refine SL.pure rfl rfl rfl (PureOp.and_ rfl rfl rfl rfl) ?_
  refine SL.nil_then ?_
  refine WC.cond rfl (fun h1 => ?_) (fun h1 => ?_)
  · try simp only [Bool.and_eq_true, Bool.or_eq_true, Bool.not_eq_true', Bool.not_eq_false', Bool.and_eq_false_iff, Bool.or_eq_false_iff, decide_eq_true_eq, decide_eq_false_iff_not, Int.not_lt, Int.not_le, ne_eq, Decidable.not_not] at h1
    obtain ⟨hrb, hkn⟩ := h1
    have hr : Right cl l := right_iff.1 hrb
    refine WC.skip ?_
    refine QX.then_ ?_
    refine WC.seq ?_
    refine WC.block ?_
    refine WC.seq ?_
    refine WC.region ?_
    refine SL.pure rfl rfl rfl (PureOp.loads (vs := [.string nm, .int .i64 se, .int .i64 ov, .slice ac nc cc]) Try.underlying24 rfl rfl (fun _ => (RowIs.cells 0 0 4 rfl rfl)) sz24) ?_
    refine SL.pure rfl rfl rfl (PureOp.move rfl) ?_
    refine SL.pure rfl rfl rfl (PureOp.move rfl) ?_
    refine SL.calle rfl rfl rfl rfl rfl rfl callable26 (fun w hw => over_ok nm se ov cl ac nc cc hnc hcb l ao n cap hn hnb w (hs.below hw.below) (hc.below hw.below) hR (right_iff.1 (by assumption)) k (by omega)) ?_
    refine SL.pure rfl rfl rfl (PureOp.neg rfl (fun _ => by (first | omega | (have q1 := sp_bd hR (right_iff.1 (by assumption)) (i := k) (by omega); omega) | (have q1 := sp_bd hR (right_iff.1 (by assumption)) (i := q) (by omega); omega)))) ?_
    refine SL.pure rfl rfl rfl (PureOp.assign rfl) ?_
    refine SL.nil_then ?_
    refine WC.seq ?_
    refine WC.seq ?_
    refine WC.region ?_
    refine SL.pure rfl rfl rfl (PureOp.assign rfl) ?_
    refine SL.nil_then ?_
    refine WC.block ?_
    refine WC.loop (σ := Nat × Int) (fun q_ => [(0, 0, .agg #[.string nm, .int .i64 se, .int .i64 ov, .slice ac nc cc]), (1, 0, .slice ao n cap), (2, 0, .pointer (some ⟨b1, 0, none⟩)), (4, 0, .slice none 0 0), (5, 0, .slice a k c), (6, 0, .int .i64 ((k : Nat) : Int)), (9, 0, .agg #[.string nm, .int .i64 se, .int .i64 ov, .slice ac nc cc]), (10, 0, .slice ao n cap), (11, 0, .bool (rightB cl l)), (12, 0, .bool (rightB cl l)), (17, 0, .bool ((rightB cl l) && (decide (((k : Nat) : Int) < ((n : Nat) : Int))))), (20, 0, .agg #[.string nm, .int .i64 se, .int .i64 ov, .slice ac nc cc]), (21, 0, .slice ao n cap), (22, 0, .int .i64 ((k : Nat) : Int)), (23, 0, .int .i64 (-(sp (se + ov) cl l k))), (24, 0, .int .i64 (-(-(sp (se + ov) cl l k)))), (8, 0, .int .i64 ((q_.1 : Nat) : Int)), (7, 0, .int .i64 q_.2)]) (fun q_ => [Item.cells b1 [.string nm, .int .i64 se, .int .i64 ov, .slice ac nc cc] 24, Item.own w0.heap.size a k c 3 1 (cellsOf encI (tab k (opn (se + ov) cl l)))]) (fun q_ => q_.1 ≤ k ∧ min q_.2 (mn (sp (se + ov) cl l) k) = mn (sp (se + ov) cl l) k ∧ (q_.1 = k → q_.2 = mn (sp (se + ov) cl l) k) ∧ (∀ j, j < q_.1 → q_.2 ≤ sp (se + ov) cl l j) ∧ q_.2 ≤ sp (se + ov) cl l k ∧ -300000 ≤ q_.2 ∧ q_.2 ≤ 1998) (fun q_ => k - q_.1) 2 ((0, - -(sp (se + ov) cl l k))) (by
          have e1 := mn_le (sp (se + ov) cl l) k k (Nat.le_refl _)
          have e2 := sp_bd hR hr (i := k) (by omega)
          refine ⟨Nat.zero_le _, ?_, ?_, fun j hj => absurd hj (by show ¬ j < 0; omega), ?_, ?_, ?_⟩
          · show min (- -(sp (se + ov) cl l k)) _ = _; omega
          · intro e; have e : 0 = k := e; subst e; show - -(sp (se + ov) cl l 0) = sp (se + ov) cl l 0; omega
          · show - -(sp (se + ov) cl l k) ≤ _; omega
          · show -300000 ≤ - -(sp (se + ov) cl l k); omega
          · show - -(sp (se + ov) cl l k) ≤ 1998; omega) ⟨rfl, rfl, rfl, rfl, rfl, rfl, rfl, rfl, rfl, rfl, rfl, rfl, rfl, rfl, rfl, rfl, rfl, rfl, rfl, rfl, rfl, rfl, rfl, rfl, rfl, rfl, rfl, rfl, rfl, rfl, rfl, rfl, rfl, rfl, rfl, rfl, trivial⟩ rfl ?_
    rintro ⟨q, m⟩ ⟨hq, hm1, hm2, hm3, hm4, hm5, hm6⟩
    try dsimp only at *
    refine WC.seq ?_
    refine WC.seq ?_
    refine WC.region ?_
    refine SL.pure rfl rfl rfl (PureOp.move rfl) ?_
    refine SL.pure rfl rfl rfl (PureOp.move rfl) ?_
    refine SL.pure rfl rfl rfl (PureOp.lss rfl rfl) ?_
    refine SL.nil_then ?_
    refine WC.cond rfl (fun h2 => ?_) (fun h2 => ?_)
    · try simp only [Bool.and_eq_true, Bool.or_eq_true, Bool.not_eq_true', Bool.not_eq_false', Bool.and_eq_false_iff, Bool.or_eq_false_iff, decide_eq_true_eq, decide_eq_false_iff_not, Int.not_lt, Int.not_le, ne_eq, Decidable.not_not] at h2
      refine WC.skip ?_
      refine QX.then_ ?_
      refine WC.seq ?_
      refine WC.block ?_
      refine WC.region ?_
      refine SL.pure rfl rfl rfl (PureOp.move rfl) ?_
      refine SL.pure rfl rfl rfl (PureOp.loads (vs := [.string nm, .int .i64 se, .int .i64 ov, .slice ac nc cc]) Try.underlying24 rfl rfl (fun _ => (RowIs.cells 0 0 4 rfl rfl)) sz24) ?_
      refine SL.pure rfl rfl rfl (PureOp.move rfl) ?_
      refine SL.pure rfl rfl rfl (PureOp.move rfl) ?_
      refine SL.calle rfl rfl rfl rfl rfl rfl callable26 (fun w hw => over_ok nm se ov cl ac nc cc hnc hcb l ao n cap hn hnb w (hs.below hw.below) (hc.below hw.below) hR (right_iff.1 (by assumption)) q (by omega)) ?_
      refine SL.pure rfl rfl rfl (PureOp.neg rfl (fun _ => by (first | omega | (have q1 := sp_bd hR (right_iff.1 (by assumption)) (i := k) (by omega); omega) | (have q1 := sp_bd hR (right_iff.1 (by assumption)) (i := q) (by omega); omega)))) ?_
      refine SL.pure rfl rfl rfl (PureOp.min_ rfl rfl) ?_
      refine SL.pure rfl rfl rfl (PureOp.assign rfl) ?_
      refine SL.nil ?_
      refine QX.normal_in ?_
      refine QX.then_ ?_
      refine WC.region ?_
      refine SL.pure rfl rfl rfl (PureOp.move rfl) ?_
      refine SL.pure rfl rfl rfl (PureOp.addN (k := 1) rfl rfl (fun _ => by (first | omega | (have q1 := sp_bd hR (right_iff.1 (by assumption)) (i := k) (by omega); omega) | (have q1 := sp_bd hR (right_iff.1 (by assumption)) (i := q) (by omega); omega)))) ?_
      refine SL.pure rfl rfl rfl (PureOp.assign rfl) ?_
      refine SL.nil ?_
      have e1 := mn_le (sp (se + ov) cl l) k q (by omega)
      have e2 := sp_bd hR hr (i := q) (by omega)
      refine QX.round (σ := Nat × Int) (Ef := fun q_ => [(0, 0, .agg #[.string nm, .int .i64 se, .int .i64 ov, .slice ac nc cc]), (1, 0, .slice ao n cap), (2, 0, .pointer (some ⟨b1, 0, none⟩)), (4, 0, .slice none 0 0), (5, 0, .slice a k c), (6, 0, .int .i64 ((k : Nat) : Int)), (9, 0, .agg #[.string nm, .int .i64 se, .int .i64 ov, .slice ac nc cc]), (10, 0, .slice ao n cap), (11, 0, .bool (rightB cl l)), (12, 0, .bool (rightB cl l)), (17, 0, .bool ((rightB cl l) && (decide (((k : Nat) : Int) < ((n : Nat) : Int))))), (20, 0, .agg #[.string nm, .int .i64 se, .int .i64 ov, .slice ac nc cc]), (21, 0, .slice ao n cap), (22, 0, .int .i64 ((k : Nat) : Int)), (23, 0, .int .i64 (-(sp (se + ov) cl l k))), (24, 0, .int .i64 (-(-(sp (se + ov) cl l k)))), (8, 0, .int .i64 ((q_.1 : Nat) : Int)), (7, 0, .int .i64 q_.2)]) (Hf := fun q_ => [Item.cells b1 [.string nm, .int .i64 se, .int .i64 ov, .slice ac nc cc] 24, Item.own w0.heap.size a k c 3 1 (cellsOf encI (tab k (opn (se + ov) cl l)))]) (I := fun q_ => q_.1 ≤ k ∧ min q_.2 (mn (sp (se + ov) cl l) k) = mn (sp (se + ov) cl l) k ∧ (q_.1 = k → q_.2 = mn (sp (se + ov) cl l) k) ∧ (∀ j, j < q_.1 → q_.2 ≤ sp (se + ov) cl l j) ∧ q_.2 ≤ sp (se + ov) cl l k ∧ -300000 ≤ q_.2 ∧ q_.2 ≤ 1998) (μ := fun q_ => k - q_.1) (s := (q, m)) 2 ((q + 1, min m (- -(sp (se + ov) cl l q)))) ⟨⟨(by first | omega | (dsimp only; omega)), by show min (min m (- -(sp (se + ov) cl l q))) (mn (sp (se + ov) cl l) k) = _; omega, fun e => ?_, fun j hj => ?_, by show min m (- -(sp (se + ov) cl l q)) ≤ _; omega, by show -300000 ≤ min m (- -(sp (se + ov) cl l q)); omega, by show min m (- -(sp (se + ov) cl l q)) ≤ 1998; omega⟩, by first | omega | (dsimp only; omega)⟩ ⟨rfl, rfl, rfl, rfl, rfl, rfl, rfl, rfl, rfl, rfl, rfl, rfl, rfl, rfl, rfl, rfl, rfl, rfl, rfl, rfl, rfl, rfl, rfl, rfl, rfl, rfl, rfl, rfl, rfl, rfl, rfl, rfl, rfl, rfl, rfl, rfl, trivial⟩ rfl
      · obtain ⟨z, z1, z2⟩ := mn_is (sp (se + ov) cl l) k
        have e : q + 1 = k := e
        show min m (- -(sp (se + ov) cl l q)) = _
        by_cases y : z < q
        · have := hm3 z y; omega
        · by_cases y2 : z = q
          · subst y2; omega
          · obtain rfl : z = k := by omega
            omega
      · have hj : j < q + 1 := hj
        show min m (- -(sp (se + ov) cl l q)) ≤ _
        by_cases y : j = q
        · subst y; omega
        · have := hm3 j (by omega); omega
    · try simp only [Bool.and_eq_true, Bool.or_eq_true, Bool.not_eq_true', Bool.not_eq_false', Bool.and_eq_false_iff, Bool.or_eq_false_iff, decide_eq_true_eq, decide_eq_false_iff_not, Int.not_lt, Int.not_le, ne_eq, Decidable.not_not] at h2
      refine WC.exit ?_
      refine QX.exit_then ?_
      refine QX.exit_then ?_
      refine QX.exit_hit ?_
      refine QX.then_ ?_
      refine WC.region ?_
      refine SL.pure rfl rfl rfl (PureOp.move rfl) ?_
      refine SL.pure rfl rfl rfl (PureOp.move rfl) ?_
      refine SL.pure rfl rfl rfl (PureOp.max_ rfl rfl) ?_
      refine SL.buildSlice rfl rfl Try.underlying25 elem3 rfl rfl rfl rfl (fun b2 hb2 => ?_)
      refine SL.append 1 rfl rfl Try.underlying25 elem3 rfl rfl rfl rfl (SrcIs.own 2 rfl) (by rfl) (by (first | omega | (have q1 := sp_bd hR (right_iff.1 (by assumption)) (i := k) (by omega); omega) | (have q1 := sp_bd hR (right_iff.1 (by assumption)) (i := q) (by omega); omega))) (by (first | omega | (have q1 := sp_bd hR (right_iff.1 (by assumption)) (i := k) (by omega); omega) | (have q1 := sp_bd hR (right_iff.1 (by assumption)) (i := q) (by omega); omega))) (fun ao1_ cap1_ => ?_)
      refine SL.itemxs 1 rfl (show _ = cellsOf encI (tab (k + 1) (opn (se + ov) cl l)) from by
          have hm := hm2 (by omega)
          rw [tab_succ, cellsOf_append, cellsOf_one, opn, show max 0 (mn (sp (se + ov) cl l) k) = max m 0 from by rw [← hm]; omega]; rfl) ?_
      refine SL.pure rfl rfl rfl (PureOp.assign rfl) ?_
      refine SL.nil ?_
      refine QX.normal_in ?_
      refine QX.then_ ?_
      refine WC.region ?_
      refine SL.pure rfl rfl rfl (PureOp.move rfl) ?_
      refine SL.pure rfl rfl rfl (PureOp.addN (k := 1) rfl rfl (fun _ => by (first | omega | (have q1 := sp_bd hR (right_iff.1 (by assumption)) (i := k) (by omega); omega) | (have q1 := sp_bd hR (right_iff.1 (by assumption)) (i := q) (by omega); omega)))) ?_
      refine SL.pure rfl rfl rfl (PureOp.assign rfl) ?_
      refine SL.nil ?_
      refine QX.round (σ := Nat × Option Addr × Nat) (Ef := fun q_ => [(0, 0, .agg #[.string nm, .int .i64 se, .int .i64 ov, .slice ac nc cc]), (1, 0, .slice ao n cap), (2, 0, .pointer (some ⟨b1, 0, none⟩)), (4, 0, .slice none 0 0), (6, 0, .int .i64 ((q_.1 : Nat) : Int)), (5, 0, .slice q_.2.1 q_.1 q_.2.2)]) (Hf := fun q_ => [Item.cells b1 [.string nm, .int .i64 se, .int .i64 ov, .slice ac nc cc] 24, Item.own w0.heap.size q_.2.1 q_.1 q_.2.2 3 1 (cellsOf encI (tab q_.1 (opn (se + ov) cl l)))]) (I := fun q_ => (q_.1 = 0 ∨ rightB cl l = true) ∧ q_.1 ≤ n) (μ := fun q_ => n - q_.1) (s := (k, a, c)) 2 ((k + 1, ao1_, cap1_)) ⟨⟨.inr hrb, (by first | omega | (dsimp only; omega))⟩, by first | omega | (dsimp only; omega)⟩ ⟨rfl, rfl, rfl, rfl, rfl, rfl, rfl, rfl, rfl, rfl, rfl, rfl, trivial⟩ rfl
  · try simp only [Bool.and_eq_true, Bool.or_eq_true, Bool.not_eq_true', Bool.not_eq_false', Bool.and_eq_false_iff, Bool.or_eq_false_iff, decide_eq_true_eq, decide_eq_false_iff_not, Int.not_lt, Int.not_le, ne_eq, Decidable.not_not] at h1
    refine WC.exit ?_
    refine QX.exit_then ?_
    refine QX.exit_then ?_
    refine QX.exit_hit ?_
    refine QX.then_ ?_
    refine WC.seq ?_
    refine WC.region ?_
    refine SL.pure rfl rfl rfl (PureOp.move rfl) ?_
    refine SL.pure rfl rfl rfl (PureOp.assign rfl) ?_
    refine SL.nil_then ?_
    refine WC.ret ?_
    refine QX.ret1 rfl rfl ?_
    intro w hw
    cases hb : rightB cl l with
  | true =>
    have hkn : k = n := by
      rcases h1 with h1 | h1
      · rw [hb] at h1; cases h1
      · omega
    subst hkn
    rw [openL, if_pos hb, ← hn, tab_len]
    exact ⟨_, _, rfl, hw.mem (i := 1) rfl⟩
  | false =>
    obtain rfl : k = 0 := by
      rcases hk0 with q | q
      · exact q
      · rw [hb] at q; cases q
    rw [openL, if_neg (by rw [hb]; simp)]
    exact ⟨_, _, rfl, hw.mem (i := 1) rfl⟩

end Go.Proofs.Ytblgllngkbjfgaa
