import Derived.Test.YtblmafknmeicfaaMtE
namespace Go.Proofs.Ytblmafknmeicfaa
open Go Go.RowKit Eng
set_option linter.unusedVariables false
set_option linter.unusedSimpArgs false

set_option maxHeartbeats 4000000 in
set_option maxRecDepth 100000 in
theorem tariff_any (w0 : World) (u3 : SliceV Unit) (al : List Ai) (aao : Option Addr) (an acap : Nat) (han : an = al.length) (sA : SliceIn w0 5 aao an acap (rowsF enc88 al)) (hab : an ≤ 1000) (u1 u2 : SliceV Unit) (fl : List Fa) (rl : List Ru) (rao : Option Addr) (rn rcap : Nat) (fao : Option Addr) (fn fcap : Nat) (hfn : fn = fl.length) (hrn : rn = rl.length) (hf : SliceIn w0 9 fao fn fcap (rowsF enc52 fl)) (hr : SliceIn w0 15 rao rn rcap (rowsF enc76 rl)) (hfb : fn ≤ 1000) (hrb : rn ≤ 1000) (tl : List (Int × SliceV Lk × Int)) (htl : tl.length = u1.l.length) (sR : SliceIn w0 3 u1.ao u1.l.length u1.cap (rowsF enc99 tl)) (htb : u1.l.length ≤ 1000) (hRu : ∀ i, i < rn → RuG w0 (nth rl i)) (hRt : ∀ i, i < u1.l.length → RtG w0 (nth tl i)) (hFa : ∀ i, i < fn → FaG (nth fl i)) (hf60 : fn ≤ 60) (hr20 : rn ≤ 20) (ht20 : u1.l.length ≤ 20) : FnC Try.prog 25 [.agg #[.slice aao an acap, .slice u3.ao u3.l.length u3.cap], .agg #[.slice fao fn fcap, .slice rao rn rcap, .slice u1.ao u1.l.length u1.cap, .slice u2.ao u2.l.length u2.cap]] w0 fun v w' => ∃ a cp n L, v = .slice a n cp ∧ LnB L n 200000000 ∧ w'.ownsRow w0.heap.size 93 2 (.slice a n cp) n (cellsOf encNF L) := by
  refine fnc (N := 150) Try.func25 rfl rfl rfl ?_
  refine WC.seq ?_
  refine WC.region ?_
  refine SL.box rfl rfl rfl (fun b1 hb1 => ?_)
  refine SL.norm [_] rfl ?_
  refine SL.box rfl rfl rfl (fun b2 hb2 => ?_)
  refine SL.norm [_, _] rfl ?_
  refine SL.pure rfl rfl rfl (PureOp.assign rfl) ?_
  refine SL.nil_then ?_
  refine WC.seq ?_
  refine WC.region ?_
  refine SL.addnil 93 2 ?_
  refine SL.pure rfl rfl rfl (PureOp.assign rfl) ?_
  refine SL.nil_then ?_
  refine WC.seq ?_
  refine WC.seq ?_
  refine WC.region ?_
  refine SL.pure rfl rfl rfl (PureOp.fieldAddrT 0 Try.underlying27 rfl sz22 rfl rfl) ?_
  refine SL.pure rfl rfl rfl (PureOp.load (v := .slice fao fn fcap) Try.underlying22 rfl rfl (fun _ => (CellIs.cells 1 rfl rfl))) ?_
  refine SL.pure rfl rfl rfl (PureOp.len rfl Try.underlying22) ?_
  refine SL.pure rfl rfl rfl (PureOp.gtr rfl rfl) ?_
  refine SL.nil_then ?_
  refine WC.cond rfl (fun h1 => ?_) (fun h1 => ?_)
  · try simp only [Bool.and_eq_true, Bool.or_eq_true, Bool.not_eq_true', Bool.not_eq_false', Bool.and_eq_false_iff, Bool.or_eq_false_iff, decide_eq_true_eq, decide_eq_false_iff_not, Int.not_lt, Int.not_le, ne_eq, Decidable.not_not] at h1
    exact absurd h1 (by omega)
  · try simp only [Bool.and_eq_true, Bool.or_eq_true, Bool.not_eq_true', Bool.not_eq_false', Bool.and_eq_false_iff, Bool.or_eq_false_iff, decide_eq_true_eq, decide_eq_false_iff_not, Int.not_lt, Int.not_le, ne_eq, Decidable.not_not] at h1
    refine WC.skip ?_
    refine QX.then_ ?_
    refine WC.seq ?_
    refine WC.seq ?_
    refine WC.region ?_
    refine SL.pure rfl rfl rfl (PureOp.assign rfl) ?_
    refine SL.nil_then ?_
    refine WC.block ?_
    refine WC.loop (σ := Nat × Option Addr × Nat × Nat × List NF) (fun q_ => [(0, 0, .agg #[.slice aao an acap, .slice u3.ao u3.l.length u3.cap]), (1, 0, .agg #[.slice fao fn fcap, .slice rao rn rcap, .slice u1.ao u1.l.length u1.cap, .slice u2.ao u2.l.length u2.cap]), (2, 0, .pointer (some ⟨b1, 0, none⟩)), (3, 0, .pointer (some ⟨b2, 0, none⟩)), (4, 0, .slice none 0 0), (17, 0, .pointer (some ⟨b2, 0, none⟩)), (18, 0, .slice fao fn fcap), (19, 0, .int .i64 ((fn : Nat) : Int)), (20, 0, .bool (decide (512 < ((fn : Nat) : Int)))), (6, 0, .int .i64 ((q_.1 : Nat) : Int)), (5, 0, .slice q_.2.1 q_.2.2.2.1 q_.2.2.1)]) (fun q_ => [Item.cells b1 [.slice aao an acap, .slice u3.ao u3.l.length u3.cap] 39, Item.cells b2 [.slice fao fn fcap, .slice rao rn rcap, .slice u1.ao u1.l.length u1.cap, .slice u2.ao u2.l.length u2.cap] 27, Item.own w0.heap.size q_.2.1 q_.2.2.2.1 q_.2.2.1 93 2 (cellsOf encNF (q_.2.2.2.2))]) (fun q_ => q_.1 ≤ fn ∧ LnB q_.2.2.2.2 q_.2.2.2.1 (6 * q_.1)) (fun q_ => fn - q_.1) 3 ((0, none, 0, 0, [])) (⟨Nat.zero_le _, LnB.nil⟩) ⟨rfl, rfl, rfl, rfl, rfl, rfl, rfl, rfl, rfl, rfl, rfl, rfl, rfl, rfl, rfl, rfl, rfl, rfl, rfl, rfl, rfl, rfl, trivial⟩ rfl ?_
    rintro ⟨i, a, c, n_, L⟩ ⟨hi, hF⟩
    try dsimp only at *
    have hFl := hF.le
    refine WC.seq ?_
    refine WC.seq ?_
    refine WC.region ?_
    refine SL.pure rfl rfl rfl (PureOp.move rfl) ?_
    refine SL.pure rfl rfl rfl (PureOp.fieldAddrT 0 Try.underlying27 rfl sz22 rfl rfl) ?_
    refine SL.pure rfl rfl rfl (PureOp.load (v := .slice fao fn fcap) Try.underlying22 rfl rfl (fun _ => (CellIs.cells 1 rfl rfl))) ?_
    refine SL.pure rfl rfl rfl (PureOp.len rfl Try.underlying22) ?_
    refine SL.pure rfl rfl rfl (PureOp.lss rfl rfl) ?_
    refine SL.nil_then ?_
    refine WC.cond rfl (fun h2 => ?_) (fun h2 => ?_)
    · try simp only [Bool.and_eq_true, Bool.or_eq_true, Bool.not_eq_true', Bool.not_eq_false', Bool.and_eq_false_iff, Bool.or_eq_false_iff, decide_eq_true_eq, decide_eq_false_iff_not, Int.not_lt, Int.not_le, ne_eq, Decidable.not_not] at h2
      refine WC.skip ?_
      refine QX.then_ ?_
      refine WC.seq ?_
      refine WC.block ?_
      refine WC.seq ?_
      refine WC.drawh ([Item.cells b1 [.slice aao an acap, .slice u3.ao u3.l.length u3.cap] 39, Item.cells b2 [.slice fao fn fcap, .slice rao rn rcap, .slice u1.ao u1.l.length u1.cap, .slice u2.ao u2.l.length u2.cap] 27, Item.own w0.heap.size a n_ c 93 2 (cellsOf encNF (L))]) 9 [false, false, false, false, false, false, false, false, false] rfl rfl rfl ?_
      refine SD.take 0 [true, false, false, false, false, false, false, false, false] rfl (by kernel_rfl) rfl (fun _ h => h) rfl rfl rfl (PureOp.loads (vs := [.slice aao an acap, .slice u3.ao u3.l.length u3.cap]) Try.underlying39 rfl rfl (fun _ => (RowIs.cells 0 0 2 rfl rfl)) sz39) ?_
      refine SD.take 1 [true, true, false, false, false, false, false, false, false] rfl (by kernel_rfl) rfl (fun _ h => h) rfl rfl rfl (PureOp.loads (vs := [.slice fao fn fcap, .slice rao rn rcap, .slice u1.ao u1.l.length u1.cap, .slice u2.ao u2.l.length u2.cap]) Try.underlying27 rfl rfl (fun _ => (RowIs.cells 1 0 4 rfl rfl)) sz27) ?_
      refine SD.take 2 [true, true, true, false, false, false, false, false, false] rfl (by kernel_rfl) rfl (fun _ h => h) rfl rfl rfl (PureOp.fieldAddrT 0 Try.underlying27 rfl sz22 rfl rfl) ?_
      refine SD.take 3 [true, true, true, true, false, false, false, false, false] rfl (by kernel_rfl) rfl (fun _ h => h) rfl rfl rfl (PureOp.load (v := .slice fao fn fcap) Try.underlying22 rfl rfl (fun _ => (CellIs.cells 1 rfl rfl))) ?_
      refine SD.take 4 [true, true, true, true, true, false, false, false, false] rfl (by kernel_rfl) rfl (fun _ h => h) rfl rfl rfl (PureOp.move rfl) ?_
      refine SD.take 5 [true, true, true, true, true, true, false, false, false] rfl (by kernel_rfl) rfl (fun _ h => h) rfl rfl rfl (PureOp.indexAddrN Try.underlying22 sz52 rfl rfl (AoOk.in_ hf) (fun _ => by first | omega | exact at_max (by decide))) ?_
      refine SD.take 6 [true, true, true, true, true, true, true, false, false] rfl (by kernel_rfl) rfl (fun _ h => h) rfl rfl rfl (PureOp.loads (vs := [.string ((nth fl i).1), .string ((nth fl i).2.1), .string ((nth fl i).2.2.1), .string ((nth fl i).2.2.2.1), .string ((nth fl i).2.2.2.2.1), .bool ((nth fl i).2.2.2.2.2.1), .int .i64 ((nth fl i).2.2.2.2.2.2.1), .int .i64 ((nth fl i).2.2.2.2.2.2.2.1), .int .i64 ((nth fl i).2.2.2.2.2.2.2.2)]) Try.underlying52 rfl rfl (fun _ => (RowIs.in_ hf i 0 9 (by first | omega | exact at_max (by decide)) (by omega))) sz52) ?_
      refine SD.one 7 [true, true, true, true, true, true, true, true, false] (by kernel_rfl) rfl rfl ?_
      refine SL.calln (fun L n => LnB L n 6) rfl rfl rfl rfl rfl rfl callable39 (fun w hw => fare_any w u3 al aao an acap han (sA.below hw.below) hab u1 u2 fl rl rao rn rcap fao fn fcap hfn hrn (hf.below hw.below) (hr.below hw.below) hfb hrb tl htl (sR.below hw.below) htb (nth fl i) (hFa i (by omega)).1 (hFa i (by omega)).2.1 (hFa i (by omega)).2.2) ?_
      intro ea ec en eL heL
      have heLl := heL.le
      refine SL.norm [_, _, _, _] rfl ?_
      refine SD.back (fun _ h => (HeapOk.take h 3)) ?_
      refine SD.take 8 [true, true, true, true, true, true, true, true, true] rfl (by kernel_rfl) rfl (fun _ h => (HeapOk.take h 3)) rfl rfl rfl (PureOp.assign rfl) ?_
      refine SD.done (by kernel_rfl) ?_
      refine QX.ofK ?_
      refine QX.then_ ?_
      refine WC.seq ?_
      refine WC.region ?_
      refine SL.pure rfl rfl rfl (PureOp.assign rfl) ?_
      refine SL.nil_then ?_
      refine WC.block ?_
      refine WC.loop (σ := Nat × Option Addr × Nat × Nat × List NF) (fun q_ => [(0, 0, .agg #[.slice aao an acap, .slice u3.ao u3.l.length u3.cap]), (1, 0, .agg #[.slice fao fn fcap, .slice rao rn rcap, .slice u1.ao u1.l.length u1.cap, .slice u2.ao u2.l.length u2.cap]), (2, 0, .pointer (some ⟨b1, 0, none⟩)), (3, 0, .pointer (some ⟨b2, 0, none⟩)), (4, 0, .slice none 0 0), (6, 0, .int .i64 ((i : Nat) : Int)), (7, 0, .slice ea en ec), (17, 0, .pointer (some ⟨b2, 0, none⟩)), (18, 0, .slice fao fn fcap), (19, 0, .int .i64 ((fn : Nat) : Int)), (20, 0, .bool (decide (512 < ((fn : Nat) : Int)))), (25, 0, .int .i64 ((i : Nat) : Int)), (26, 0, .pointer (some ⟨b2, 0, none⟩)), (27, 0, .slice fao fn fcap), (28, 0, .int .i64 ((fn : Nat) : Int)), (29, 0, .bool (decide (((i : Nat) : Int) < ((fn : Nat) : Int)))), (32, 0, .agg #[.slice aao an acap, .slice u3.ao u3.l.length u3.cap]), (33, 0, .agg #[.slice fao fn fcap, .slice rao rn rcap, .slice u1.ao u1.l.length u1.cap, .slice u2.ao u2.l.length u2.cap]), (34, 0, .pointer (some ⟨b2, 0, none⟩)), (35, 0, .slice fao fn fcap), (36, 0, .int .i64 ((i : Nat) : Int)), (37, 0, .pointer (some ⟨blk fao, off fao + i * 9, none⟩)), (38, 0, .agg #[.string ((nth fl i).1), .string ((nth fl i).2.1), .string ((nth fl i).2.2.1), .string ((nth fl i).2.2.2.1), .string ((nth fl i).2.2.2.2.1), .bool ((nth fl i).2.2.2.2.2.1), .int .i64 ((nth fl i).2.2.2.2.2.2.1), .int .i64 ((nth fl i).2.2.2.2.2.2.2.1), .int .i64 ((nth fl i).2.2.2.2.2.2.2.2)]), (39, 0, .slice ea en ec), (8, 0, .int .i64 ((q_.1 : Nat) : Int)), (5, 0, .slice q_.2.1 q_.2.2.2.1 q_.2.2.1)]) (fun q_ => [Item.cells b1 [.slice aao an acap, .slice u3.ao u3.l.length u3.cap] 39, Item.cells b2 [.slice fao fn fcap, .slice rao rn rcap, .slice u1.ao u1.l.length u1.cap, .slice u2.ao u2.l.length u2.cap] 27, Item.own w0.heap.size q_.2.1 q_.2.2.2.1 q_.2.2.1 93 2 (cellsOf encNF (q_.2.2.2.2)), Item.own w0.heap.size ea en ec 31 1 (cellsOf encI eL)]) (fun q_ => q_.1 ≤ en ∧ LnB q_.2.2.2.2 q_.2.2.2.1 (6 * i + q_.1)) (fun q_ => en - q_.1) 4 ((0, a, c, n_, L)) (⟨Nat.zero_le _, hF⟩) ⟨rfl, rfl, rfl, rfl, rfl, rfl, rfl, rfl, rfl, rfl, rfl, rfl, rfl, rfl, rfl, rfl, rfl, rfl, rfl, rfl, rfl, rfl, rfl, rfl, rfl, rfl, rfl, rfl, rfl, rfl, rfl, rfl, rfl, rfl, rfl, rfl, rfl, rfl, rfl, rfl, rfl, rfl, rfl, rfl, rfl, rfl, rfl, rfl, rfl, rfl, rfl, rfl, trivial⟩ rfl ?_
      rintro ⟨k, a2, c2, m_, M⟩ ⟨hk, hM⟩
      try dsimp only at *
      have hMl := hM.le
      have heLn := heL.len
      refine WC.seq ?_
      refine WC.seq ?_
      refine WC.region ?_
      refine SL.pure rfl rfl rfl (PureOp.move rfl) ?_
      refine SL.pure rfl rfl rfl (PureOp.move rfl) ?_
      refine SL.pure rfl rfl rfl (PureOp.len rfl Try.underlying89) ?_
      refine SL.pure rfl rfl rfl (PureOp.lss rfl rfl) ?_
      refine SL.nil_then ?_
      refine WC.cond rfl (fun h3 => ?_) (fun h3 => ?_)
      · try simp only [Bool.and_eq_true, Bool.or_eq_true, Bool.not_eq_true', Bool.not_eq_false', Bool.and_eq_false_iff, Bool.or_eq_false_iff, decide_eq_true_eq, decide_eq_false_iff_not, Int.not_lt, Int.not_le, ne_eq, Decidable.not_not] at h3
        refine WC.skip ?_
        refine QX.then_ ?_
        refine WC.seq ?_
        refine WC.block ?_
        refine WC.drawh ([Item.cells b1 [.slice aao an acap, .slice u3.ao u3.l.length u3.cap] 39, Item.cells b2 [.slice fao fn fcap, .slice rao rn rcap, .slice u1.ao u1.l.length u1.cap, .slice u2.ao u2.l.length u2.cap] 27, Item.triv, Item.own w0.heap.size ea en ec 31 1 (cellsOf encI eL)]) 12 [false, false, false, false, false, false, false, false, false, false, false, false] rfl rfl rfl ?_
        refine SD.take 0 [true, false, false, false, false, false, false, false, false, false, false, false] rfl (by kernel_rfl) rfl (fun _ h => (HeapOk.settriv h (i := 2) rfl)) rfl rfl rfl (PureOp.move rfl) ?_
        refine SD.take 1 [true, true, false, false, false, false, false, false, false, false, false, false] rfl (by kernel_rfl) rfl (fun _ h => (HeapOk.settriv h (i := 2) rfl)) rfl rfl rfl (PureOp.move rfl) ?_
        refine SD.take 2 [true, true, true, false, false, false, false, false, false, false, false, false] rfl (by kernel_rfl) rfl (fun _ h => (HeapOk.settriv h (i := 2) rfl)) rfl rfl rfl (PureOp.move rfl) ?_
        refine SD.take 3 [true, true, true, true, false, false, false, false, false, false, false, false] rfl (by kernel_rfl) rfl (fun _ h => (HeapOk.settriv h (i := 2) rfl)) rfl rfl rfl (PureOp.indexAddrN Try.underlying89 sz31 rfl rfl (AoOk.own 3 rfl) (fun _ => by first | omega | exact at_max (by decide))) ?_
        refine SD.take 4 [true, true, true, true, true, false, false, false, false, false, false, false] rfl (by kernel_rfl) rfl (fun _ h => (HeapOk.settriv h (i := 2) rfl)) rfl rfl rfl (PureOp.load (v := .int .i64 (nth eL k)) Try.underlying31 rfl rfl (fun _ => (CellIs.ownc 3 rfl k 0 (by exact encI_get (by omega))))) ?_
        refine SD.take 5 [true, true, true, true, true, true, false, false, false, false, false, false] rfl (by kernel_rfl) rfl (fun _ h => (HeapOk.settriv h (i := 2) rfl)) rfl rfl rfl (PureOp.move rfl) ?_
        refine SD.one 6 [true, true, true, true, true, true, true, false, false, false, false, false] (by kernel_rfl) rfl rfl ?_
        refine SL.calle rfl rfl rfl rfl rfl rfl callable37 (fun w hw => decimal_ok ((i : Nat) : Int) (by omega) w) ?_
        refine SL.norm [_, _, _, _] rfl ?_
        refine SD.back (fun _ h => (HeapOk.settriv h (i := 2) rfl)) ?_
        refine SD.take 7 [true, true, true, true, true, true, true, true, false, false, false, false] rfl (by kernel_rfl) rfl (fun _ h => (HeapOk.settriv h (i := 2) rfl)) rfl rfl rfl (PureOp.adds rfl rfl (fun _ => by first | omega | exact at_max (by decide))) ?_
        refine SD.take 8 [true, true, true, true, true, true, true, true, true, false, false, false] rfl (by kernel_rfl) rfl (fun _ h => (HeapOk.settriv h (i := 2) rfl)) rfl rfl rfl (PureOp.build bld93 rfl rfl) ?_
        refine SD.one 9 [true, true, true, true, true, true, true, true, true, true, false, false] (by kernel_rfl) rfl rfl ?_
        refine SL.buildSlice rfl rfl Try.underlying63 elem93 rfl rfl rfl rfl (fun b3 hb3 => ?_)
        refine SL.norm [_, _, _, _, _] rfl ?_
        refine SD.back (fun _ h => (HeapOk.settriv (HeapOk.take h 4) (i := 2) rfl)) ?_
        refine SD.one 10 [true, true, true, true, true, true, true, true, true, true, true, false] (by kernel_rfl) rfl rfl ?_
        refine SL.append 2 rfl rfl Try.underlying63 elem93 rfl rfl rfl rfl (SrcIs.own 4 rfl) (by rfl) (by first | omega | exact at_max (by decide)) (by first | omega | exact at_max (by decide)) (fun ao1_ cap1_ => ?_)
        refine SL.itemxs 2 rfl (show _ = cellsOf encNF (M ++ [(((nth eL k) : Int), (((⟨#[102, 97, 114, 101, 32]⟩) ++ (decS ((i : Nat) : Int))) : ByteArray))]) from by rw [cellsOf_append (l := M), cellsOf_one]; rfl) ?_
        refine SL.norm [_, _, _, _, _] rfl ?_
        refine SD.back (fun _ h => (HeapOk.settriv (HeapOk.take h 4) (i := 2) rfl)) ?_
        refine SD.take 11 [true, true, true, true, true, true, true, true, true, true, true, true] rfl (by kernel_rfl) rfl (fun _ h => (HeapOk.settriv (HeapOk.take h 4) (i := 2) rfl)) rfl rfl rfl (PureOp.assign rfl) ?_
        refine SD.done (by kernel_rfl) ?_
        refine QX.ofK ?_
        refine QX.normal_in ?_
        refine QX.then_ ?_
        refine WC.region ?_
        refine SL.pure rfl rfl rfl (PureOp.move rfl) ?_
        refine SL.pure rfl rfl rfl (PureOp.addN (k := 1) rfl rfl (fun _ => by first | omega | exact at_max (by decide))) ?_
        refine SL.pure rfl rfl rfl (PureOp.assign rfl) ?_
        refine SL.nil ?_
        refine QX.round (σ := Nat × Option Addr × Nat × Nat × List NF) (Ef := fun q_ => [(0, 0, .agg #[.slice aao an acap, .slice u3.ao u3.l.length u3.cap]), (1, 0, .agg #[.slice fao fn fcap, .slice rao rn rcap, .slice u1.ao u1.l.length u1.cap, .slice u2.ao u2.l.length u2.cap]), (2, 0, .pointer (some ⟨b1, 0, none⟩)), (3, 0, .pointer (some ⟨b2, 0, none⟩)), (4, 0, .slice none 0 0), (6, 0, .int .i64 ((i : Nat) : Int)), (7, 0, .slice ea en ec), (17, 0, .pointer (some ⟨b2, 0, none⟩)), (18, 0, .slice fao fn fcap), (19, 0, .int .i64 ((fn : Nat) : Int)), (20, 0, .bool (decide (512 < ((fn : Nat) : Int)))), (25, 0, .int .i64 ((i : Nat) : Int)), (26, 0, .pointer (some ⟨b2, 0, none⟩)), (27, 0, .slice fao fn fcap), (28, 0, .int .i64 ((fn : Nat) : Int)), (29, 0, .bool (decide (((i : Nat) : Int) < ((fn : Nat) : Int)))), (32, 0, .agg #[.slice aao an acap, .slice u3.ao u3.l.length u3.cap]), (33, 0, .agg #[.slice fao fn fcap, .slice rao rn rcap, .slice u1.ao u1.l.length u1.cap, .slice u2.ao u2.l.length u2.cap]), (34, 0, .pointer (some ⟨b2, 0, none⟩)), (35, 0, .slice fao fn fcap), (36, 0, .int .i64 ((i : Nat) : Int)), (37, 0, .pointer (some ⟨blk fao, off fao + i * 9, none⟩)), (38, 0, .agg #[.string ((nth fl i).1), .string ((nth fl i).2.1), .string ((nth fl i).2.2.1), .string ((nth fl i).2.2.2.1), .string ((nth fl i).2.2.2.2.1), .bool ((nth fl i).2.2.2.2.2.1), .int .i64 ((nth fl i).2.2.2.2.2.2.1), .int .i64 ((nth fl i).2.2.2.2.2.2.2.1), .int .i64 ((nth fl i).2.2.2.2.2.2.2.2)]), (39, 0, .slice ea en ec), (8, 0, .int .i64 ((q_.1 : Nat) : Int)), (5, 0, .slice q_.2.1 q_.2.2.2.1 q_.2.2.1)]) (Hf := fun q_ => [Item.cells b1 [.slice aao an acap, .slice u3.ao u3.l.length u3.cap] 39, Item.cells b2 [.slice fao fn fcap, .slice rao rn rcap, .slice u1.ao u1.l.length u1.cap, .slice u2.ao u2.l.length u2.cap] 27, Item.own w0.heap.size q_.2.1 q_.2.2.2.1 q_.2.2.1 93 2 (cellsOf encNF (q_.2.2.2.2)), Item.own w0.heap.size ea en ec 31 1 (cellsOf encI eL)]) (I := fun q_ => q_.1 ≤ en ∧ LnB q_.2.2.2.2 q_.2.2.2.1 (6 * i + q_.1)) (μ := fun q_ => en - q_.1) (s := (k, a2, c2, m_, M)) 4 ((k + 1, ao1_, cap1_, m_ + 1, M ++ [(((nth eL k) : Int), (((⟨#[102, 97, 114, 101, 32]⟩) ++ (decS ((i : Nat) : Int))) : ByteArray))])) ⟨⟨(by first | omega | (dsimp only; omega)), (by exact hM.snoc)⟩, by first | omega | (dsimp only; omega)⟩ ⟨rfl, rfl, rfl, rfl, rfl, rfl, rfl, rfl, rfl, rfl, rfl, rfl, rfl, rfl, rfl, rfl, rfl, rfl, rfl, rfl, rfl, rfl, rfl, rfl, rfl, rfl, rfl, rfl, rfl, rfl, rfl, rfl, rfl, rfl, rfl, rfl, rfl, rfl, rfl, rfl, rfl, rfl, rfl, rfl, rfl, rfl, rfl, rfl, rfl, rfl, rfl, rfl, trivial⟩ rfl
      · try simp only [Bool.and_eq_true, Bool.or_eq_true, Bool.not_eq_true', Bool.not_eq_false', Bool.and_eq_false_iff, Bool.or_eq_false_iff, decide_eq_true_eq, decide_eq_false_iff_not, Int.not_lt, Int.not_le, ne_eq, Decidable.not_not] at h3
        refine WC.exit ?_
        refine QX.exit_then ?_
        refine QX.exit_then ?_
        refine QX.exit_hit ?_
        refine QX.normal_in ?_
        refine QX.then_ ?_
        refine WC.region ?_
        refine SL.pure rfl rfl rfl (PureOp.move rfl) ?_
        refine SL.pure rfl rfl rfl (PureOp.addN (k := 1) rfl rfl (fun _ => by first | omega | exact at_max (by decide))) ?_
        refine SL.pure rfl rfl rfl (PureOp.assign rfl) ?_
        refine SL.nil ?_
        refine QX.round (σ := Nat × Option Addr × Nat × Nat × List NF) (Ef := fun q_ => [(0, 0, .agg #[.slice aao an acap, .slice u3.ao u3.l.length u3.cap]), (1, 0, .agg #[.slice fao fn fcap, .slice rao rn rcap, .slice u1.ao u1.l.length u1.cap, .slice u2.ao u2.l.length u2.cap]), (2, 0, .pointer (some ⟨b1, 0, none⟩)), (3, 0, .pointer (some ⟨b2, 0, none⟩)), (4, 0, .slice none 0 0), (17, 0, .pointer (some ⟨b2, 0, none⟩)), (18, 0, .slice fao fn fcap), (19, 0, .int .i64 ((fn : Nat) : Int)), (20, 0, .bool (decide (512 < ((fn : Nat) : Int)))), (6, 0, .int .i64 ((q_.1 : Nat) : Int)), (5, 0, .slice q_.2.1 q_.2.2.2.1 q_.2.2.1)]) (Hf := fun q_ => [Item.cells b1 [.slice aao an acap, .slice u3.ao u3.l.length u3.cap] 39, Item.cells b2 [.slice fao fn fcap, .slice rao rn rcap, .slice u1.ao u1.l.length u1.cap, .slice u2.ao u2.l.length u2.cap] 27, Item.own w0.heap.size q_.2.1 q_.2.2.2.1 q_.2.2.1 93 2 (cellsOf encNF (q_.2.2.2.2))]) (I := fun q_ => q_.1 ≤ fn ∧ LnB q_.2.2.2.2 q_.2.2.2.1 (6 * q_.1)) (μ := fun q_ => fn - q_.1) (s := (i, a, c, n_, L)) 3 ((i + 1, a2, c2, m_, M)) ⟨⟨(by first | omega | (dsimp only; omega)), (by exact hM.mono (by omega))⟩, by first | omega | (dsimp only; omega)⟩ ⟨rfl, rfl, rfl, rfl, rfl, rfl, rfl, rfl, rfl, rfl, rfl, rfl, rfl, rfl, rfl, rfl, rfl, rfl, rfl, rfl, rfl, rfl, trivial⟩ rfl
    · try simp only [Bool.and_eq_true, Bool.or_eq_true, Bool.not_eq_true', Bool.not_eq_false', Bool.and_eq_false_iff, Bool.or_eq_false_iff, decide_eq_true_eq, decide_eq_false_iff_not, Int.not_lt, Int.not_le, ne_eq, Decidable.not_not] at h2
      refine WC.exit ?_
      refine QX.exit_then ?_
      refine QX.exit_then ?_
      refine QX.exit_hit ?_
      refine QX.then_ ?_
      refine WC.seq ?_
      refine WC.seq ?_
      refine WC.region ?_
      refine SL.pure rfl rfl rfl (PureOp.assign rfl) ?_
      refine SL.nil_then ?_
      refine WC.block ?_
      refine WC.loop (σ := Nat × Option Addr × Nat × Nat × List NF) (fun q_ => [(0, 0, .agg #[.slice aao an acap, .slice u3.ao u3.l.length u3.cap]), (1, 0, .agg #[.slice fao fn fcap, .slice rao rn rcap, .slice u1.ao u1.l.length u1.cap, .slice u2.ao u2.l.length u2.cap]), (2, 0, .pointer (some ⟨b1, 0, none⟩)), (3, 0, .pointer (some ⟨b2, 0, none⟩)), (4, 0, .slice none 0 0), (6, 0, .int .i64 ((i : Nat) : Int)), (17, 0, .pointer (some ⟨b2, 0, none⟩)), (18, 0, .slice fao fn fcap), (19, 0, .int .i64 ((fn : Nat) : Int)), (20, 0, .bool (decide (512 < ((fn : Nat) : Int)))), (25, 0, .int .i64 ((i : Nat) : Int)), (26, 0, .pointer (some ⟨b2, 0, none⟩)), (27, 0, .slice fao fn fcap), (28, 0, .int .i64 ((fn : Nat) : Int)), (29, 0, .bool (decide (((i : Nat) : Int) < ((fn : Nat) : Int)))), (9, 0, .int .i64 ((q_.1 : Nat) : Int)), (5, 0, .slice q_.2.1 q_.2.2.2.1 q_.2.2.1)]) (fun q_ => [Item.cells b1 [.slice aao an acap, .slice u3.ao u3.l.length u3.cap] 39, Item.cells b2 [.slice fao fn fcap, .slice rao rn rcap, .slice u1.ao u1.l.length u1.cap, .slice u2.ao u2.l.length u2.cap] 27, Item.own w0.heap.size q_.2.1 q_.2.2.2.1 q_.2.2.1 93 2 (cellsOf encNF (q_.2.2.2.2))]) (fun q_ => q_.1 ≤ rn ∧ LnB q_.2.2.2.2 q_.2.2.2.1 (360 + 6000001 * q_.1)) (fun q_ => rn - q_.1) 3 ((0, a, c, n_, L)) (⟨Nat.zero_le _, hF.mono (by omega)⟩) ⟨rfl, rfl, rfl, rfl, rfl, rfl, rfl, rfl, rfl, rfl, rfl, rfl, rfl, rfl, rfl, rfl, rfl, rfl, rfl, rfl, rfl, rfl, rfl, rfl, rfl, rfl, rfl, rfl, rfl, rfl, rfl, rfl, rfl, rfl, trivial⟩ rfl ?_
      rintro ⟨r, a, c, n_, L⟩ ⟨hr_, hF⟩
      try dsimp only at *
      have hFl := hF.le
      refine WC.seq ?_
      refine WC.seq ?_
      refine WC.region ?_
      refine SL.pure rfl rfl rfl (PureOp.move rfl) ?_
      refine SL.pure rfl rfl rfl (PureOp.fieldAddrT 1 Try.underlying27 rfl sz23 rfl rfl) ?_
      refine SL.pure rfl rfl rfl (PureOp.load (v := .slice rao rn rcap) Try.underlying23 rfl rfl (fun _ => (CellIs.cells 1 rfl rfl))) ?_
      refine SL.pure rfl rfl rfl (PureOp.len rfl Try.underlying23) ?_
      refine SL.pure rfl rfl rfl (PureOp.lss rfl rfl) ?_
      refine SL.nil_then ?_
      refine WC.cond rfl (fun h4 => ?_) (fun h4 => ?_)
      · try simp only [Bool.and_eq_true, Bool.or_eq_true, Bool.not_eq_true', Bool.not_eq_false', Bool.and_eq_false_iff, Bool.or_eq_false_iff, decide_eq_true_eq, decide_eq_false_iff_not, Int.not_lt, Int.not_le, ne_eq, Decidable.not_not] at h4
        have hG := hRu r (by omega)
        obtain ⟨pl, hpl, sP, hps⟩ := hG.p
        refine WC.skip ?_
        refine QX.then_ ?_
        refine WC.seq ?_
        refine WC.block ?_
        refine WC.seq ?_
        refine WC.region ?_
        refine SL.pure rfl rfl rfl (PureOp.move rfl) ?_
        refine SL.calle rfl rfl rfl rfl rfl rfl callable37 (fun w hw => decimal_ok ((r : Nat) : Int) (by omega) w) ?_
        refine SL.norm [_, _, _] rfl ?_
        refine SL.pure rfl rfl rfl (PureOp.adds rfl rfl (fun _ => by first | omega | exact at_max (by decide))) ?_
        refine SL.pure rfl rfl rfl (PureOp.assign rfl) ?_
        refine SL.pure rfl rfl rfl (PureOp.assign rfl) ?_
        refine SL.nil_then ?_
        refine WC.seq ?_
        refine WC.seq ?_
        refine WC.region ?_
        refine SL.pure rfl rfl rfl (PureOp.assign rfl) ?_
        refine SL.nil_then ?_
        refine WC.block ?_
        refine WC.loop (σ := Nat × Bool) (fun q_ => [(0, 0, .agg #[.slice aao an acap, .slice u3.ao u3.l.length u3.cap]), (1, 0, .agg #[.slice fao fn fcap, .slice rao rn rcap, .slice u1.ao u1.l.length u1.cap, .slice u2.ao u2.l.length u2.cap]), (2, 0, .pointer (some ⟨b1, 0, none⟩)), (3, 0, .pointer (some ⟨b2, 0, none⟩)), (4, 0, .slice none 0 0), (5, 0, .slice a n_ c), (6, 0, .int .i64 ((i : Nat) : Int)), (9, 0, .int .i64 ((r : Nat) : Int)), (10, 0, .string ((⟨#[114, 117, 108, 101, 32]⟩) ++ (decS ((r : Nat) : Int)))), (17, 0, .pointer (some ⟨b2, 0, none⟩)), (18, 0, .slice fao fn fcap), (19, 0, .int .i64 ((fn : Nat) : Int)), (20, 0, .bool (decide (512 < ((fn : Nat) : Int)))), (25, 0, .int .i64 ((i : Nat) : Int)), (26, 0, .pointer (some ⟨b2, 0, none⟩)), (27, 0, .slice fao fn fcap), (28, 0, .int .i64 ((fn : Nat) : Int)), (29, 0, .bool (decide (((i : Nat) : Int) < ((fn : Nat) : Int)))), (57, 0, .int .i64 ((r : Nat) : Int)), (58, 0, .pointer (some ⟨b2, 1, none⟩)), (59, 0, .slice rao rn rcap), (60, 0, .int .i64 ((rn : Nat) : Int)), (61, 0, .bool (decide (((r : Nat) : Int) < ((rn : Nat) : Int)))), (64, 0, .int .i64 ((r : Nat) : Int)), (65, 0, .string (decS ((r : Nat) : Int))), (66, 0, .string ((⟨#[114, 117, 108, 101, 32]⟩) ++ (decS ((r : Nat) : Int)))), (12, 0, .int .i64 ((q_.1 : Nat) : Int)), (11, 0, .bool q_.2)]) (fun q_ => [Item.cells b1 [.slice aao an acap, .slice u3.ao u3.l.length u3.cap] 39, Item.cells b2 [.slice fao fn fcap, .slice rao rn rcap, .slice u1.ao u1.l.length u1.cap, .slice u2.ao u2.l.length u2.cap] 27, Item.own w0.heap.size a n_ c 93 2 (cellsOf encNF (L))]) (fun q_ => q_.1 ≤ r) (fun q_ => r - q_.1) 3 ((0, false)) (Nat.zero_le _) ⟨rfl, rfl, rfl, rfl, rfl, rfl, rfl, rfl, rfl, rfl, rfl, rfl, rfl, rfl, rfl, rfl, rfl, rfl, rfl, rfl, rfl, rfl, rfl, rfl, rfl, rfl, rfl, rfl, rfl, rfl, rfl, rfl, rfl, rfl, rfl, rfl, rfl, rfl, rfl, rfl, rfl, rfl, rfl, rfl, rfl, rfl, rfl, rfl, rfl, rfl, rfl, rfl, rfl, rfl, rfl, rfl, trivial⟩ rfl ?_
        rintro ⟨k, tw⟩ hk
        try dsimp only at *
        refine WC.seq ?_
        refine WC.seq ?_
        refine WC.region ?_
        refine SL.pure rfl rfl rfl (PureOp.move rfl) ?_
        refine SL.pure rfl rfl rfl (PureOp.move rfl) ?_
        refine SL.pure rfl rfl rfl (PureOp.lss rfl rfl) ?_
        refine SL.nil_then ?_
        refine WC.cond rfl (fun h5 => ?_) (fun h5 => ?_)
        · try simp only [Bool.and_eq_true, Bool.or_eq_true, Bool.not_eq_true', Bool.not_eq_false', Bool.and_eq_false_iff, Bool.or_eq_false_iff, decide_eq_true_eq, decide_eq_false_iff_not, Int.not_lt, Int.not_le, ne_eq, Decidable.not_not] at h5
          refine WC.skip ?_
          refine QX.then_ ?_
          refine WC.seq ?_
          refine WC.block ?_
          refine WC.quiet rfl (by kernel_rfl) ?_
          refine SQ.pure rfl rfl rfl (PureOp.move rfl) ?_
          refine SQ.pure rfl rfl rfl (PureOp.move rfl) ?_
          refine SQ.newg 73 false rfl ?_
          refine SQ.gpure (c := 1) rfl rfl rfl rfl rfl rfl rfl (PureOp.fieldAddrT 1 Try.underlying27 rfl sz23 rfl rfl) ?_
          refine SQ.gpure (c := 1) rfl rfl rfl rfl rfl rfl rfl (PureOp.load (v := .slice rao rn rcap) Try.underlying23 rfl rfl (fun _ => (CellIs.cells 1 rfl rfl))) ?_
          refine SQ.gpure (c := 1) rfl rfl rfl rfl rfl rfl rfl (PureOp.move rfl) ?_
          refine SQ.gpure (c := 1) rfl rfl rfl rfl rfl rfl rfl (PureOp.indexAddrN Try.underlying23 sz76 rfl rfl (AoOk.in_ hr) (by intro hg; simp [gval] at hg; first | omega | exact at_max (by decide))) ?_
          refine SQ.gpure (c := 1) rfl rfl rfl rfl rfl rfl rfl (PureOp.fieldAddr 0 Try.underlying76 rfl rfl sz3 rfl) ?_
          refine SQ.gpure (c := 1) rfl rfl rfl rfl rfl rfl rfl (PureOp.load (v := .int .i64 ((nth rl k).1)) Try.underlying3 rfl rfl (by intro hg; simp [gval] at hg; exact (CellIs.in_ hr k 0 (by first | omega | exact at_max (by decide)) (by omega)))) ?_
          refine SQ.gpure (c := 1) rfl rfl rfl rfl rfl rfl rfl (PureOp.fieldAddrT 1 Try.underlying27 rfl sz23 rfl rfl) ?_
          refine SQ.gpure (c := 1) rfl rfl rfl rfl rfl rfl rfl (PureOp.load (v := .slice rao rn rcap) Try.underlying23 rfl rfl (fun _ => (CellIs.cells 1 rfl rfl))) ?_
          refine SQ.gpure (c := 1) rfl rfl rfl rfl rfl rfl rfl (PureOp.move rfl) ?_
          refine SQ.gpure (c := 1) rfl rfl rfl rfl rfl rfl rfl (PureOp.indexAddrN Try.underlying23 sz76 rfl rfl (AoOk.in_ hr) (by intro hg; simp [gval] at hg; first | omega | exact at_max (by decide))) ?_
          refine SQ.gpure (c := 1) rfl rfl rfl rfl rfl rfl rfl (PureOp.fieldAddr 0 Try.underlying76 rfl rfl sz3 rfl) ?_
          refine SQ.gpure (c := 1) rfl rfl rfl rfl rfl rfl rfl (PureOp.load (v := .int .i64 ((nth rl r).1)) Try.underlying3 rfl rfl (by intro hg; simp [gval] at hg; exact (CellIs.in_ hr r 0 (by first | omega | exact at_max (by decide)) (by omega)))) ?_
          refine SQ.gpure (c := 1) rfl rfl rfl rfl rfl rfl rfl (PureOp.eql rfl rfl) ?_
          refine SQ.pure rfl rfl rfl (PureOp.or_ rfl rfl rfl rfl) ?_
          refine SQ.pure rfl rfl rfl (PureOp.assign rfl) ?_
          refine SQ.nil ?_
          refine QX.normal_in ?_
          refine QX.then_ ?_
          refine WC.region ?_
          refine SL.pure rfl rfl rfl (PureOp.move rfl) ?_
          refine SL.pure rfl rfl rfl (PureOp.addN (k := 1) rfl rfl (fun _ => by first | omega | exact at_max (by decide))) ?_
          refine SL.pure rfl rfl rfl (PureOp.assign rfl) ?_
          refine SL.nil ?_
          refine QX.round (σ := Nat × Bool) (Ef := fun q_ => [(0, 0, .agg #[.slice aao an acap, .slice u3.ao u3.l.length u3.cap]), (1, 0, .agg #[.slice fao fn fcap, .slice rao rn rcap, .slice u1.ao u1.l.length u1.cap, .slice u2.ao u2.l.length u2.cap]), (2, 0, .pointer (some ⟨b1, 0, none⟩)), (3, 0, .pointer (some ⟨b2, 0, none⟩)), (4, 0, .slice none 0 0), (5, 0, .slice a n_ c), (6, 0, .int .i64 ((i : Nat) : Int)), (9, 0, .int .i64 ((r : Nat) : Int)), (10, 0, .string ((⟨#[114, 117, 108, 101, 32]⟩) ++ (decS ((r : Nat) : Int)))), (17, 0, .pointer (some ⟨b2, 0, none⟩)), (18, 0, .slice fao fn fcap), (19, 0, .int .i64 ((fn : Nat) : Int)), (20, 0, .bool (decide (512 < ((fn : Nat) : Int)))), (25, 0, .int .i64 ((i : Nat) : Int)), (26, 0, .pointer (some ⟨b2, 0, none⟩)), (27, 0, .slice fao fn fcap), (28, 0, .int .i64 ((fn : Nat) : Int)), (29, 0, .bool (decide (((i : Nat) : Int) < ((fn : Nat) : Int)))), (57, 0, .int .i64 ((r : Nat) : Int)), (58, 0, .pointer (some ⟨b2, 1, none⟩)), (59, 0, .slice rao rn rcap), (60, 0, .int .i64 ((rn : Nat) : Int)), (61, 0, .bool (decide (((r : Nat) : Int) < ((rn : Nat) : Int)))), (64, 0, .int .i64 ((r : Nat) : Int)), (65, 0, .string (decS ((r : Nat) : Int))), (66, 0, .string ((⟨#[114, 117, 108, 101, 32]⟩) ++ (decS ((r : Nat) : Int)))), (12, 0, .int .i64 ((q_.1 : Nat) : Int)), (11, 0, .bool q_.2)]) (Hf := fun q_ => [Item.cells b1 [.slice aao an acap, .slice u3.ao u3.l.length u3.cap] 39, Item.cells b2 [.slice fao fn fcap, .slice rao rn rcap, .slice u1.ao u1.l.length u1.cap, .slice u2.ao u2.l.length u2.cap] 27, Item.own w0.heap.size a n_ c 93 2 (cellsOf encNF (L))]) (I := fun q_ => q_.1 ≤ r) (μ := fun q_ => r - q_.1) (s := (k, tw)) 3 ((k + 1, tw || (decide ((nth rl k).1 = (nth rl r).1)))) ⟨(by first | omega | (dsimp only; omega)), by first | omega | (dsimp only; omega)⟩ ⟨rfl, rfl, rfl, rfl, rfl, rfl, rfl, rfl, rfl, rfl, rfl, rfl, rfl, rfl, rfl, rfl, rfl, rfl, rfl, rfl, rfl, rfl, rfl, rfl, rfl, rfl, rfl, rfl, rfl, rfl, rfl, rfl, rfl, rfl, rfl, rfl, rfl, rfl, rfl, rfl, rfl, rfl, rfl, rfl, rfl, rfl, rfl, rfl, rfl, rfl, rfl, rfl, rfl, rfl, rfl, rfl, trivial⟩ rfl
        · try simp only [Bool.and_eq_true, Bool.or_eq_true, Bool.not_eq_true', Bool.not_eq_false', Bool.and_eq_false_iff, Bool.or_eq_false_iff, decide_eq_true_eq, decide_eq_false_iff_not, Int.not_lt, Int.not_le, ne_eq, Decidable.not_not] at h5
          refine WC.exit ?_
          refine QX.exit_then ?_
          refine QX.exit_then ?_
          refine QX.exit_hit ?_
          refine QX.then_ ?_
          refine WC.seq ?_
          refine WC.seq ?_
          refine WC.region ?_
          refine SL.pure rfl rfl rfl (PureOp.move rfl) ?_
          refine SL.nil_then ?_
          refine WC.cond rfl (fun h6 => ?_) (fun h6 => ?_)
          · try simp only [Bool.and_eq_true, Bool.or_eq_true, Bool.not_eq_true', Bool.not_eq_false', Bool.and_eq_false_iff, Bool.or_eq_false_iff, decide_eq_true_eq, decide_eq_false_iff_not, Int.not_lt, Int.not_le, ne_eq, Decidable.not_not] at h6
            refine WC.region ?_
            refine SL.pure rfl rfl rfl (PureOp.move rfl) ?_
            refine SL.pure rfl rfl rfl (PureOp.move rfl) ?_
            refine SL.pure rfl rfl rfl (PureOp.build bld93 rfl rfl) ?_
            refine SL.buildSlice rfl rfl Try.underlying63 elem93 rfl rfl rfl rfl (fun b4 hb4 => ?_)
            refine SL.norm [_, _, _, _] rfl ?_
            refine SL.append 2 rfl rfl Try.underlying63 elem93 rfl rfl rfl rfl (SrcIs.own 3 rfl) (by rfl) (by first | omega | exact at_max (by decide)) (by first | omega | exact at_max (by decide)) (fun ao2_ cap2_ => ?_)
            refine SL.itemxs 2 rfl (show _ = cellsOf encNF (L ++ [((6 : Int), (((⟨#[114, 117, 108, 101, 32]⟩) ++ (decS ((r : Nat) : Int))) : ByteArray))]) from by rw [cellsOf_append (l := L), cellsOf_one]; rfl) ?_
            refine SL.norm [_, _, _, _] rfl ?_
            refine SL.pure rfl rfl rfl (PureOp.assign rfl) ?_
            refine SL.nil_then ?_
            refine WC.region ?_
            refine SL.pure rfl rfl rfl (PureOp.move rfl) ?_
            refine SL.pure rfl rfl rfl (PureOp.move rfl) ?_
            refine SL.pure rfl rfl rfl (PureOp.fieldAddrT 1 Try.underlying27 rfl sz23 rfl rfl) ?_
            refine SL.pure rfl rfl rfl (PureOp.load (v := .slice rao rn rcap) Try.underlying23 rfl rfl (fun _ => (CellIs.cells 1 rfl rfl))) ?_
            refine SL.pure rfl rfl rfl (PureOp.move rfl) ?_
            refine SL.pure rfl rfl rfl (PureOp.indexAddrN Try.underlying23 sz76 rfl rfl (AoOk.in_ hr) (fun _ => by first | omega | exact at_max (by decide))) ?_
            refine SL.pure rfl rfl rfl (PureOp.loads (vs := [.int .i64 ((nth rl r).1), .int .i64 ((nth rl r).2.1.1), .slice ((nth rl r).2.1.2.1.ao) ((nth rl r).2.1.2.1.l.length) ((nth rl r).2.1.2.1.cap), .int .i64 ((nth rl r).2.1.2.2.1), .int .i64 ((nth rl r).2.1.2.2.2.1), .int .i64 ((nth rl r).2.1.2.2.2.2.1.1), .int .i64 ((nth rl r).2.1.2.2.2.2.1.2.1), .int .i64 ((nth rl r).2.1.2.2.2.2.1.2.2), .slice ((nth rl r).2.1.2.2.2.2.2.ao) ((nth rl r).2.1.2.2.2.2.2.l.length) ((nth rl r).2.1.2.2.2.2.2.cap), .slice ((nth rl r).2.2.1.ao) ((nth rl r).2.2.1.l.length) ((nth rl r).2.2.1.cap), .int .i64 ((nth rl r).2.2.2.1), .int .i64 ((nth rl r).2.2.2.2.1), .int .i64 ((nth rl r).2.2.2.2.2.1), .int .i64 ((nth rl r).2.2.2.2.2.2.1), .slice ((nth rl r).2.2.2.2.2.2.2.ao) ((nth rl r).2.2.2.2.2.2.2.l.length) ((nth rl r).2.2.2.2.2.2.2.cap)]) Try.underlying76 rfl rfl (fun _ => (RowIs.in_ hr r 0 15 (by first | omega | exact at_max (by decide)) (by omega))) sz76) ?_
            refine SL.calln (fun L n => FLs L n 6000000) rfl rfl rfl rfl rfl rfl callable41 (fun w hw => rulef_any w (nth rl r) (condBelow hG.c hw.below) (strBelow hG.t hw.below) (hG.i.below hw.below) hG.im pl hpl (sP.below hw.below) hps hG.pm) ?_
            intro qa qc qn qL hqL
            have hqLl := hqL.ln.le
            refine SL.norm [_, _, _, _, _] rfl ?_
            have hI_ := inner_ok ao2_ qa (n_ + 1) cap2_ qn qc (360 + 6000001 * r + 1) (6000000) (L ++ [((6 : Int), (((⟨#[114, 117, 108, 101, 32]⟩) ++ (decS ((r : Nat) : Int))) : ByteArray))]) qL ((⟨#[114, 117, 108, 101, 32]⟩) ++ (decS ((r : Nat) : Int))) (by first | exact hF.mono (by omega) | exact hF.snoc.mono (by omega)) hqL (at_sz (by decide)) (by omega) w0
            refine SL.callM [2, 4] rfl rfl rfl rfl rfl rfl callable40 (by decide) (hI_) rfl (fun _ _ => rfl) ?_
            rintro ⟨ma, mc, mL⟩ hM
            refine SL.norm [_, _, _, _, _] rfl ?_
            refine SL.pure rfl rfl rfl (PureOp.assign rfl) ?_
            refine SL.nil ?_
            refine QX.normal_in ?_
            refine QX.then_ ?_
            refine WC.region ?_
            refine SL.pure rfl rfl rfl (PureOp.move rfl) ?_
            refine SL.pure rfl rfl rfl (PureOp.addN (k := 1) rfl rfl (fun _ => by first | omega | exact at_max (by decide))) ?_
            refine SL.pure rfl rfl rfl (PureOp.assign rfl) ?_
            refine SL.nil ?_
            refine QX.round (σ := Nat × Option Addr × Nat × Nat × List NF) (Ef := fun q_ => [(0, 0, .agg #[.slice aao an acap, .slice u3.ao u3.l.length u3.cap]), (1, 0, .agg #[.slice fao fn fcap, .slice rao rn rcap, .slice u1.ao u1.l.length u1.cap, .slice u2.ao u2.l.length u2.cap]), (2, 0, .pointer (some ⟨b1, 0, none⟩)), (3, 0, .pointer (some ⟨b2, 0, none⟩)), (4, 0, .slice none 0 0), (6, 0, .int .i64 ((i : Nat) : Int)), (17, 0, .pointer (some ⟨b2, 0, none⟩)), (18, 0, .slice fao fn fcap), (19, 0, .int .i64 ((fn : Nat) : Int)), (20, 0, .bool (decide (512 < ((fn : Nat) : Int)))), (25, 0, .int .i64 ((i : Nat) : Int)), (26, 0, .pointer (some ⟨b2, 0, none⟩)), (27, 0, .slice fao fn fcap), (28, 0, .int .i64 ((fn : Nat) : Int)), (29, 0, .bool (decide (((i : Nat) : Int) < ((fn : Nat) : Int)))), (9, 0, .int .i64 ((q_.1 : Nat) : Int)), (5, 0, .slice q_.2.1 q_.2.2.2.1 q_.2.2.1)]) (Hf := fun q_ => [Item.cells b1 [.slice aao an acap, .slice u3.ao u3.l.length u3.cap] 39, Item.cells b2 [.slice fao fn fcap, .slice rao rn rcap, .slice u1.ao u1.l.length u1.cap, .slice u2.ao u2.l.length u2.cap] 27, Item.own w0.heap.size q_.2.1 q_.2.2.2.1 q_.2.2.1 93 2 (cellsOf encNF (q_.2.2.2.2))]) (I := fun q_ => q_.1 ≤ rn ∧ LnB q_.2.2.2.2 q_.2.2.2.1 (360 + 6000001 * q_.1)) (μ := fun q_ => rn - q_.1) (s := (r, a, c, n_, L)) 3 ((r + 1, ma, mc, (n_ + 1) + qn, mL)) ⟨⟨(by first | omega | (dsimp only; omega)), (by exact hM.mono (by omega))⟩, by first | omega | (dsimp only; omega)⟩ ⟨rfl, rfl, rfl, rfl, rfl, rfl, rfl, rfl, rfl, rfl, rfl, rfl, rfl, rfl, rfl, rfl, rfl, rfl, rfl, rfl, rfl, rfl, rfl, rfl, rfl, rfl, rfl, rfl, rfl, rfl, rfl, rfl, rfl, rfl, trivial⟩ rfl
          · try simp only [Bool.and_eq_true, Bool.or_eq_true, Bool.not_eq_true', Bool.not_eq_false', Bool.and_eq_false_iff, Bool.or_eq_false_iff, decide_eq_true_eq, decide_eq_false_iff_not, Int.not_lt, Int.not_le, ne_eq, Decidable.not_not] at h6
            refine WC.skip ?_
            refine QX.then_ ?_
            refine WC.region ?_
            refine SL.pure rfl rfl rfl (PureOp.move rfl) ?_
            refine SL.pure rfl rfl rfl (PureOp.move rfl) ?_
            refine SL.pure rfl rfl rfl (PureOp.fieldAddrT 1 Try.underlying27 rfl sz23 rfl rfl) ?_
            refine SL.pure rfl rfl rfl (PureOp.load (v := .slice rao rn rcap) Try.underlying23 rfl rfl (fun _ => (CellIs.cells 1 rfl rfl))) ?_
            refine SL.pure rfl rfl rfl (PureOp.move rfl) ?_
            refine SL.pure rfl rfl rfl (PureOp.indexAddrN Try.underlying23 sz76 rfl rfl (AoOk.in_ hr) (fun _ => by first | omega | exact at_max (by decide))) ?_
            refine SL.pure rfl rfl rfl (PureOp.loads (vs := [.int .i64 ((nth rl r).1), .int .i64 ((nth rl r).2.1.1), .slice ((nth rl r).2.1.2.1.ao) ((nth rl r).2.1.2.1.l.length) ((nth rl r).2.1.2.1.cap), .int .i64 ((nth rl r).2.1.2.2.1), .int .i64 ((nth rl r).2.1.2.2.2.1), .int .i64 ((nth rl r).2.1.2.2.2.2.1.1), .int .i64 ((nth rl r).2.1.2.2.2.2.1.2.1), .int .i64 ((nth rl r).2.1.2.2.2.2.1.2.2), .slice ((nth rl r).2.1.2.2.2.2.2.ao) ((nth rl r).2.1.2.2.2.2.2.l.length) ((nth rl r).2.1.2.2.2.2.2.cap), .slice ((nth rl r).2.2.1.ao) ((nth rl r).2.2.1.l.length) ((nth rl r).2.2.1.cap), .int .i64 ((nth rl r).2.2.2.1), .int .i64 ((nth rl r).2.2.2.2.1), .int .i64 ((nth rl r).2.2.2.2.2.1), .int .i64 ((nth rl r).2.2.2.2.2.2.1), .slice ((nth rl r).2.2.2.2.2.2.2.ao) ((nth rl r).2.2.2.2.2.2.2.l.length) ((nth rl r).2.2.2.2.2.2.2.cap)]) Try.underlying76 rfl rfl (fun _ => (RowIs.in_ hr r 0 15 (by first | omega | exact at_max (by decide)) (by omega))) sz76) ?_
            refine SL.calln (fun L n => FLs L n 6000000) rfl rfl rfl rfl rfl rfl callable41 (fun w hw => rulef_any w (nth rl r) (condBelow hG.c hw.below) (strBelow hG.t hw.below) (hG.i.below hw.below) hG.im pl hpl (sP.below hw.below) hps hG.pm) ?_
            intro qa qc qn qL hqL
            have hqLl := hqL.ln.le
            refine SL.norm [_, _, _, _] rfl ?_
            have hI_ := inner_ok a qa n_ c qn qc (360 + 6000001 * r + 1) (6000000) L qL ((⟨#[114, 117, 108, 101, 32]⟩) ++ (decS ((r : Nat) : Int))) (by first | exact hF.mono (by omega) | exact hF.snoc.mono (by omega)) hqL (at_sz (by decide)) (by omega) w0
            refine SL.callM [2, 3] rfl rfl rfl rfl rfl rfl callable40 (by decide) (hI_) rfl (fun _ _ => rfl) ?_
            rintro ⟨ma, mc, mL⟩ hM
            refine SL.norm [_, _, _, _] rfl ?_
            refine SL.pure rfl rfl rfl (PureOp.assign rfl) ?_
            refine SL.nil ?_
            refine QX.normal_in ?_
            refine QX.then_ ?_
            refine WC.region ?_
            refine SL.pure rfl rfl rfl (PureOp.move rfl) ?_
            refine SL.pure rfl rfl rfl (PureOp.addN (k := 1) rfl rfl (fun _ => by first | omega | exact at_max (by decide))) ?_
            refine SL.pure rfl rfl rfl (PureOp.assign rfl) ?_
            refine SL.nil ?_
            refine QX.round (σ := Nat × Option Addr × Nat × Nat × List NF) (Ef := fun q_ => [(0, 0, .agg #[.slice aao an acap, .slice u3.ao u3.l.length u3.cap]), (1, 0, .agg #[.slice fao fn fcap, .slice rao rn rcap, .slice u1.ao u1.l.length u1.cap, .slice u2.ao u2.l.length u2.cap]), (2, 0, .pointer (some ⟨b1, 0, none⟩)), (3, 0, .pointer (some ⟨b2, 0, none⟩)), (4, 0, .slice none 0 0), (6, 0, .int .i64 ((i : Nat) : Int)), (17, 0, .pointer (some ⟨b2, 0, none⟩)), (18, 0, .slice fao fn fcap), (19, 0, .int .i64 ((fn : Nat) : Int)), (20, 0, .bool (decide (512 < ((fn : Nat) : Int)))), (25, 0, .int .i64 ((i : Nat) : Int)), (26, 0, .pointer (some ⟨b2, 0, none⟩)), (27, 0, .slice fao fn fcap), (28, 0, .int .i64 ((fn : Nat) : Int)), (29, 0, .bool (decide (((i : Nat) : Int) < ((fn : Nat) : Int)))), (9, 0, .int .i64 ((q_.1 : Nat) : Int)), (5, 0, .slice q_.2.1 q_.2.2.2.1 q_.2.2.1)]) (Hf := fun q_ => [Item.cells b1 [.slice aao an acap, .slice u3.ao u3.l.length u3.cap] 39, Item.cells b2 [.slice fao fn fcap, .slice rao rn rcap, .slice u1.ao u1.l.length u1.cap, .slice u2.ao u2.l.length u2.cap] 27, Item.own w0.heap.size q_.2.1 q_.2.2.2.1 q_.2.2.1 93 2 (cellsOf encNF (q_.2.2.2.2))]) (I := fun q_ => q_.1 ≤ rn ∧ LnB q_.2.2.2.2 q_.2.2.2.1 (360 + 6000001 * q_.1)) (μ := fun q_ => rn - q_.1) (s := (r, a, c, n_, L)) 3 ((r + 1, ma, mc, n_ + qn, mL)) ⟨⟨(by first | omega | (dsimp only; omega)), (by exact hM.mono (by omega))⟩, by first | omega | (dsimp only; omega)⟩ ⟨rfl, rfl, rfl, rfl, rfl, rfl, rfl, rfl, rfl, rfl, rfl, rfl, rfl, rfl, rfl, rfl, rfl, rfl, rfl, rfl, rfl, rfl, rfl, rfl, rfl, rfl, rfl, rfl, rfl, rfl, rfl, rfl, rfl, rfl, trivial⟩ rfl
      · try simp only [Bool.and_eq_true, Bool.or_eq_true, Bool.not_eq_true', Bool.not_eq_false', Bool.and_eq_false_iff, Bool.or_eq_false_iff, decide_eq_true_eq, decide_eq_false_iff_not, Int.not_lt, Int.not_le, ne_eq, Decidable.not_not] at h4
        refine WC.exit ?_
        refine QX.exit_then ?_
        refine QX.exit_then ?_
        refine QX.exit_hit ?_
        refine QX.then_ ?_
        refine WC.seq ?_
        refine WC.seq ?_
        refine WC.region ?_
        refine SL.pure rfl rfl rfl (PureOp.assign rfl) ?_
        refine SL.nil_then ?_
        refine WC.block ?_
        refine WC.loop (σ := Nat × Option Addr × Nat × Nat × List NF) (fun q_ => [(0, 0, .agg #[.slice aao an acap, .slice u3.ao u3.l.length u3.cap]), (1, 0, .agg #[.slice fao fn fcap, .slice rao rn rcap, .slice u1.ao u1.l.length u1.cap, .slice u2.ao u2.l.length u2.cap]), (2, 0, .pointer (some ⟨b1, 0, none⟩)), (3, 0, .pointer (some ⟨b2, 0, none⟩)), (4, 0, .slice none 0 0), (6, 0, .int .i64 ((i : Nat) : Int)), (9, 0, .int .i64 ((r : Nat) : Int)), (17, 0, .pointer (some ⟨b2, 0, none⟩)), (18, 0, .slice fao fn fcap), (19, 0, .int .i64 ((fn : Nat) : Int)), (20, 0, .bool (decide (512 < ((fn : Nat) : Int)))), (25, 0, .int .i64 ((i : Nat) : Int)), (26, 0, .pointer (some ⟨b2, 0, none⟩)), (27, 0, .slice fao fn fcap), (28, 0, .int .i64 ((fn : Nat) : Int)), (29, 0, .bool (decide (((i : Nat) : Int) < ((fn : Nat) : Int)))), (57, 0, .int .i64 ((r : Nat) : Int)), (58, 0, .pointer (some ⟨b2, 1, none⟩)), (59, 0, .slice rao rn rcap), (60, 0, .int .i64 ((rn : Nat) : Int)), (61, 0, .bool (decide (((r : Nat) : Int) < ((rn : Nat) : Int)))), (13, 0, .int .i64 ((q_.1 : Nat) : Int)), (5, 0, .slice q_.2.1 q_.2.2.2.1 q_.2.2.1)]) (fun q_ => [Item.cells b1 [.slice aao an acap, .slice u3.ao u3.l.length u3.cap] 39, Item.cells b2 [.slice fao fn fcap, .slice rao rn rcap, .slice u1.ao u1.l.length u1.cap, .slice u2.ao u2.l.length u2.cap] 27, Item.own w0.heap.size q_.2.1 q_.2.2.2.1 q_.2.2.1 93 2 (cellsOf encNF (q_.2.2.2.2))]) (fun q_ => q_.1 ≤ u1.l.length ∧ LnB q_.2.2.2.2 q_.2.2.2.1 (120000380 + 401 * q_.1)) (fun q_ => u1.l.length - q_.1) 3 ((0, a, c, n_, L)) (⟨Nat.zero_le _, hF.mono (by omega)⟩) ⟨rfl, rfl, rfl, rfl, rfl, rfl, rfl, rfl, rfl, rfl, rfl, rfl, rfl, rfl, rfl, rfl, rfl, rfl, rfl, rfl, rfl, rfl, rfl, rfl, rfl, rfl, rfl, rfl, rfl, rfl, rfl, rfl, rfl, rfl, rfl, rfl, rfl, rfl, rfl, rfl, rfl, rfl, rfl, rfl, rfl, rfl, trivial⟩ rfl ?_
        rintro ⟨g, a, c, n_, L⟩ ⟨hg_, hF⟩
        try dsimp only at *
        have hFl := hF.le
        refine WC.seq ?_
        refine WC.seq ?_
        refine WC.region ?_
        refine SL.pure rfl rfl rfl (PureOp.move rfl) ?_
        refine SL.pure rfl rfl rfl (PureOp.fieldAddrT 2 Try.underlying27 rfl sz24 rfl rfl) ?_
        refine SL.pure rfl rfl rfl (PureOp.load (v := .slice u1.ao u1.l.length u1.cap) Try.underlying24 rfl rfl (fun _ => (CellIs.cells 1 rfl rfl))) ?_
        refine SL.pure rfl rfl rfl (PureOp.len rfl Try.underlying24) ?_
        refine SL.pure rfl rfl rfl (PureOp.lss rfl rfl) ?_
        refine SL.nil_then ?_
        refine WC.cond rfl (fun h7 => ?_) (fun h7 => ?_)
        · try simp only [Bool.and_eq_true, Bool.or_eq_true, Bool.not_eq_true', Bool.not_eq_false', Bool.and_eq_false_iff, Bool.or_eq_false_iff, decide_eq_true_eq, decide_eq_false_iff_not, Int.not_lt, Int.not_le, ne_eq, Decidable.not_not] at h7
          have hH := hRt g (by omega)
          refine WC.skip ?_
          refine QX.then_ ?_
          refine WC.seq ?_
          refine WC.block ?_
          refine WC.seq ?_
          refine WC.region ?_
          refine SL.pure rfl rfl rfl (PureOp.move rfl) ?_
          refine SL.calle rfl rfl rfl rfl rfl rfl callable37 (fun w hw => decimal_ok ((g : Nat) : Int) (by omega) w) ?_
          refine SL.norm [_, _, _] rfl ?_
          refine SL.pure rfl rfl rfl (PureOp.adds rfl rfl (fun _ => by first | omega | exact at_max (by decide))) ?_
          refine SL.pure rfl rfl rfl (PureOp.assign rfl) ?_
          refine SL.pure rfl rfl rfl (PureOp.assign rfl) ?_
          refine SL.nil_then ?_
          refine WC.seq ?_
          refine WC.seq ?_
          refine WC.region ?_
          refine SL.pure rfl rfl rfl (PureOp.assign rfl) ?_
          refine SL.nil_then ?_
          refine WC.block ?_
          refine WC.loop (σ := Nat × Bool) (fun q_ => [(0, 0, .agg #[.slice aao an acap, .slice u3.ao u3.l.length u3.cap]), (1, 0, .agg #[.slice fao fn fcap, .slice rao rn rcap, .slice u1.ao u1.l.length u1.cap, .slice u2.ao u2.l.length u2.cap]), (2, 0, .pointer (some ⟨b1, 0, none⟩)), (3, 0, .pointer (some ⟨b2, 0, none⟩)), (4, 0, .slice none 0 0), (5, 0, .slice a n_ c), (6, 0, .int .i64 ((i : Nat) : Int)), (9, 0, .int .i64 ((r : Nat) : Int)), (13, 0, .int .i64 ((g : Nat) : Int)), (14, 0, .string ((⟨#[114, 111, 117, 116, 105, 110, 103, 32]⟩) ++ (decS ((g : Nat) : Int)))), (17, 0, .pointer (some ⟨b2, 0, none⟩)), (18, 0, .slice fao fn fcap), (19, 0, .int .i64 ((fn : Nat) : Int)), (20, 0, .bool (decide (512 < ((fn : Nat) : Int)))), (25, 0, .int .i64 ((i : Nat) : Int)), (26, 0, .pointer (some ⟨b2, 0, none⟩)), (27, 0, .slice fao fn fcap), (28, 0, .int .i64 ((fn : Nat) : Int)), (29, 0, .bool (decide (((i : Nat) : Int) < ((fn : Nat) : Int)))), (57, 0, .int .i64 ((r : Nat) : Int)), (58, 0, .pointer (some ⟨b2, 1, none⟩)), (59, 0, .slice rao rn rcap), (60, 0, .int .i64 ((rn : Nat) : Int)), (61, 0, .bool (decide (((r : Nat) : Int) < ((rn : Nat) : Int)))), (103, 0, .int .i64 ((g : Nat) : Int)), (104, 0, .pointer (some ⟨b2, 2, none⟩)), (105, 0, .slice u1.ao u1.l.length u1.cap), (106, 0, .int .i64 ((u1.l.length : Nat) : Int)), (107, 0, .bool (decide (((g : Nat) : Int) < ((u1.l.length : Nat) : Int)))), (110, 0, .int .i64 ((g : Nat) : Int)), (111, 0, .string (decS ((g : Nat) : Int))), (112, 0, .string ((⟨#[114, 111, 117, 116, 105, 110, 103, 32]⟩) ++ (decS ((g : Nat) : Int)))), (16, 0, .int .i64 ((q_.1 : Nat) : Int)), (15, 0, .bool q_.2)]) (fun q_ => [Item.cells b1 [.slice aao an acap, .slice u3.ao u3.l.length u3.cap] 39, Item.cells b2 [.slice fao fn fcap, .slice rao rn rcap, .slice u1.ao u1.l.length u1.cap, .slice u2.ao u2.l.length u2.cap] 27, Item.own w0.heap.size a n_ c 93 2 (cellsOf encNF (L))]) (fun q_ => q_.1 ≤ g) (fun q_ => g - q_.1) 3 ((0, false)) (Nat.zero_le _) ⟨rfl, rfl, rfl, rfl, rfl, rfl, rfl, rfl, rfl, rfl, rfl, rfl, rfl, rfl, rfl, rfl, rfl, rfl, rfl, rfl, rfl, rfl, rfl, rfl, rfl, rfl, rfl, rfl, rfl, rfl, rfl, rfl, rfl, rfl, rfl, rfl, rfl, rfl, rfl, rfl, rfl, rfl, rfl, rfl, rfl, rfl, rfl, rfl, rfl, rfl, rfl, rfl, rfl, rfl, rfl, rfl, rfl, rfl, rfl, rfl, rfl, rfl, rfl, rfl, rfl, rfl, rfl, rfl, trivial⟩ rfl ?_
          rintro ⟨k, tw⟩ hk
          try dsimp only at *
          refine WC.seq ?_
          refine WC.seq ?_
          refine WC.region ?_
          refine SL.pure rfl rfl rfl (PureOp.move rfl) ?_
          refine SL.pure rfl rfl rfl (PureOp.move rfl) ?_
          refine SL.pure rfl rfl rfl (PureOp.lss rfl rfl) ?_
          refine SL.nil_then ?_
          refine WC.cond rfl (fun h8 => ?_) (fun h8 => ?_)
          · try simp only [Bool.and_eq_true, Bool.or_eq_true, Bool.not_eq_true', Bool.not_eq_false', Bool.and_eq_false_iff, Bool.or_eq_false_iff, decide_eq_true_eq, decide_eq_false_iff_not, Int.not_lt, Int.not_le, ne_eq, Decidable.not_not] at h8
            refine WC.skip ?_
            refine QX.then_ ?_
            refine WC.seq ?_
            refine WC.block ?_
            refine WC.quiet rfl (by kernel_rfl) ?_
            refine SQ.pure rfl rfl rfl (PureOp.move rfl) ?_
            refine SQ.pure rfl rfl rfl (PureOp.move rfl) ?_
            refine SQ.newg 119 false rfl ?_
            refine SQ.gpure (c := 1) rfl rfl rfl rfl rfl rfl rfl (PureOp.fieldAddrT 2 Try.underlying27 rfl sz24 rfl rfl) ?_
            refine SQ.gpure (c := 1) rfl rfl rfl rfl rfl rfl rfl (PureOp.load (v := .slice u1.ao u1.l.length u1.cap) Try.underlying24 rfl rfl (fun _ => (CellIs.cells 1 rfl rfl))) ?_
            refine SQ.gpure (c := 1) rfl rfl rfl rfl rfl rfl rfl (PureOp.move rfl) ?_
            refine SQ.gpure (c := 1) rfl rfl rfl rfl rfl rfl rfl (PureOp.indexAddrN Try.underlying24 sz99 rfl rfl (AoOk.in_ sR) (by intro hg; simp [gval] at hg; first | omega | exact at_max (by decide))) ?_
            refine SQ.gpure (c := 1) rfl rfl rfl rfl rfl rfl rfl (PureOp.fieldAddr 0 Try.underlying99 rfl rfl sz3 rfl) ?_
            refine SQ.gpure (c := 1) rfl rfl rfl rfl rfl rfl rfl (PureOp.load (v := .int .i64 ((nth tl k).1)) Try.underlying3 rfl rfl (by intro hg; simp [gval] at hg; exact (CellIs.in_ sR k 0 (by first | omega | exact at_max (by decide)) (by omega)))) ?_
            refine SQ.gpure (c := 1) rfl rfl rfl rfl rfl rfl rfl (PureOp.fieldAddrT 2 Try.underlying27 rfl sz24 rfl rfl) ?_
            refine SQ.gpure (c := 1) rfl rfl rfl rfl rfl rfl rfl (PureOp.load (v := .slice u1.ao u1.l.length u1.cap) Try.underlying24 rfl rfl (fun _ => (CellIs.cells 1 rfl rfl))) ?_
            refine SQ.gpure (c := 1) rfl rfl rfl rfl rfl rfl rfl (PureOp.move rfl) ?_
            refine SQ.gpure (c := 1) rfl rfl rfl rfl rfl rfl rfl (PureOp.indexAddrN Try.underlying24 sz99 rfl rfl (AoOk.in_ sR) (by intro hg; simp [gval] at hg; first | omega | exact at_max (by decide))) ?_
            refine SQ.gpure (c := 1) rfl rfl rfl rfl rfl rfl rfl (PureOp.fieldAddr 0 Try.underlying99 rfl rfl sz3 rfl) ?_
            refine SQ.gpure (c := 1) rfl rfl rfl rfl rfl rfl rfl (PureOp.load (v := .int .i64 ((nth tl g).1)) Try.underlying3 rfl rfl (by intro hg; simp [gval] at hg; exact (CellIs.in_ sR g 0 (by first | omega | exact at_max (by decide)) (by omega)))) ?_
            refine SQ.gpure (c := 1) rfl rfl rfl rfl rfl rfl rfl (PureOp.eql rfl rfl) ?_
            refine SQ.pure rfl rfl rfl (PureOp.or_ rfl rfl rfl rfl) ?_
            refine SQ.pure rfl rfl rfl (PureOp.assign rfl) ?_
            refine SQ.nil ?_
            refine QX.normal_in ?_
            refine QX.then_ ?_
            refine WC.region ?_
            refine SL.pure rfl rfl rfl (PureOp.move rfl) ?_
            refine SL.pure rfl rfl rfl (PureOp.addN (k := 1) rfl rfl (fun _ => by first | omega | exact at_max (by decide))) ?_
            refine SL.pure rfl rfl rfl (PureOp.assign rfl) ?_
            refine SL.nil ?_
            refine QX.round (σ := Nat × Bool) (Ef := fun q_ => [(0, 0, .agg #[.slice aao an acap, .slice u3.ao u3.l.length u3.cap]), (1, 0, .agg #[.slice fao fn fcap, .slice rao rn rcap, .slice u1.ao u1.l.length u1.cap, .slice u2.ao u2.l.length u2.cap]), (2, 0, .pointer (some ⟨b1, 0, none⟩)), (3, 0, .pointer (some ⟨b2, 0, none⟩)), (4, 0, .slice none 0 0), (5, 0, .slice a n_ c), (6, 0, .int .i64 ((i : Nat) : Int)), (9, 0, .int .i64 ((r : Nat) : Int)), (13, 0, .int .i64 ((g : Nat) : Int)), (14, 0, .string ((⟨#[114, 111, 117, 116, 105, 110, 103, 32]⟩) ++ (decS ((g : Nat) : Int)))), (17, 0, .pointer (some ⟨b2, 0, none⟩)), (18, 0, .slice fao fn fcap), (19, 0, .int .i64 ((fn : Nat) : Int)), (20, 0, .bool (decide (512 < ((fn : Nat) : Int)))), (25, 0, .int .i64 ((i : Nat) : Int)), (26, 0, .pointer (some ⟨b2, 0, none⟩)), (27, 0, .slice fao fn fcap), (28, 0, .int .i64 ((fn : Nat) : Int)), (29, 0, .bool (decide (((i : Nat) : Int) < ((fn : Nat) : Int)))), (57, 0, .int .i64 ((r : Nat) : Int)), (58, 0, .pointer (some ⟨b2, 1, none⟩)), (59, 0, .slice rao rn rcap), (60, 0, .int .i64 ((rn : Nat) : Int)), (61, 0, .bool (decide (((r : Nat) : Int) < ((rn : Nat) : Int)))), (103, 0, .int .i64 ((g : Nat) : Int)), (104, 0, .pointer (some ⟨b2, 2, none⟩)), (105, 0, .slice u1.ao u1.l.length u1.cap), (106, 0, .int .i64 ((u1.l.length : Nat) : Int)), (107, 0, .bool (decide (((g : Nat) : Int) < ((u1.l.length : Nat) : Int)))), (110, 0, .int .i64 ((g : Nat) : Int)), (111, 0, .string (decS ((g : Nat) : Int))), (112, 0, .string ((⟨#[114, 111, 117, 116, 105, 110, 103, 32]⟩) ++ (decS ((g : Nat) : Int)))), (16, 0, .int .i64 ((q_.1 : Nat) : Int)), (15, 0, .bool q_.2)]) (Hf := fun q_ => [Item.cells b1 [.slice aao an acap, .slice u3.ao u3.l.length u3.cap] 39, Item.cells b2 [.slice fao fn fcap, .slice rao rn rcap, .slice u1.ao u1.l.length u1.cap, .slice u2.ao u2.l.length u2.cap] 27, Item.own w0.heap.size a n_ c 93 2 (cellsOf encNF (L))]) (I := fun q_ => q_.1 ≤ g) (μ := fun q_ => g - q_.1) (s := (k, tw)) 3 ((k + 1, tw || (decide ((nth tl k).1 = (nth tl g).1)))) ⟨(by first | omega | (dsimp only; omega)), by first | omega | (dsimp only; omega)⟩ ⟨rfl, rfl, rfl, rfl, rfl, rfl, rfl, rfl, rfl, rfl, rfl, rfl, rfl, rfl, rfl, rfl, rfl, rfl, rfl, rfl, rfl, rfl, rfl, rfl, rfl, rfl, rfl, rfl, rfl, rfl, rfl, rfl, rfl, rfl, rfl, rfl, rfl, rfl, rfl, rfl, rfl, rfl, rfl, rfl, rfl, rfl, rfl, rfl, rfl, rfl, rfl, rfl, rfl, rfl, rfl, rfl, rfl, rfl, rfl, rfl, rfl, rfl, rfl, rfl, rfl, rfl, rfl, rfl, trivial⟩ rfl
          · try simp only [Bool.and_eq_true, Bool.or_eq_true, Bool.not_eq_true', Bool.not_eq_false', Bool.and_eq_false_iff, Bool.or_eq_false_iff, decide_eq_true_eq, decide_eq_false_iff_not, Int.not_lt, Int.not_le, ne_eq, Decidable.not_not] at h8
            refine WC.exit ?_
            refine QX.exit_then ?_
            refine QX.exit_then ?_
            refine QX.exit_hit ?_
            refine QX.then_ ?_
            refine WC.seq ?_
            refine WC.seq ?_
            refine WC.region ?_
            refine SL.pure rfl rfl rfl (PureOp.move rfl) ?_
            refine SL.nil_then ?_
            refine WC.cond rfl (fun h9 => ?_) (fun h9 => ?_)
            · try simp only [Bool.and_eq_true, Bool.or_eq_true, Bool.not_eq_true', Bool.not_eq_false', Bool.and_eq_false_iff, Bool.or_eq_false_iff, decide_eq_true_eq, decide_eq_false_iff_not, Int.not_lt, Int.not_le, ne_eq, Decidable.not_not] at h9
              refine WC.region ?_
              refine SL.pure rfl rfl rfl (PureOp.move rfl) ?_
              refine SL.pure rfl rfl rfl (PureOp.move rfl) ?_
              refine SL.pure rfl rfl rfl (PureOp.build bld93 rfl rfl) ?_
              refine SL.buildSlice rfl rfl Try.underlying63 elem93 rfl rfl rfl rfl (fun b5 hb5 => ?_)
              refine SL.norm [_, _, _, _] rfl ?_
              refine SL.append 2 rfl rfl Try.underlying63 elem93 rfl rfl rfl rfl (SrcIs.own 3 rfl) (by rfl) (by first | omega | exact at_max (by decide)) (by first | omega | exact at_max (by decide)) (fun ao3_ cap3_ => ?_)
              refine SL.itemxs 2 rfl (show _ = cellsOf encNF (L ++ [((6 : Int), (((⟨#[114, 111, 117, 116, 105, 110, 103, 32]⟩) ++ (decS ((g : Nat) : Int))) : ByteArray))]) from by rw [cellsOf_append (l := L), cellsOf_one]; rfl) ?_
              refine SL.norm [_, _, _, _] rfl ?_
              refine SL.pure rfl rfl rfl (PureOp.assign rfl) ?_
              refine SL.nil_then ?_
              refine WC.region ?_
              refine SL.pure rfl rfl rfl (PureOp.move rfl) ?_
              refine SL.pure rfl rfl rfl (PureOp.move rfl) ?_
              refine SL.pure rfl rfl rfl (PureOp.fieldAddrT 2 Try.underlying27 rfl sz24 rfl rfl) ?_
              refine SL.pure rfl rfl rfl (PureOp.load (v := .slice u1.ao u1.l.length u1.cap) Try.underlying24 rfl rfl (fun _ => (CellIs.cells 1 rfl rfl))) ?_
              refine SL.pure rfl rfl rfl (PureOp.move rfl) ?_
              refine SL.pure rfl rfl rfl (PureOp.indexAddrN Try.underlying24 sz99 rfl rfl (AoOk.in_ sR) (fun _ => by first | omega | exact at_max (by decide))) ?_
              refine SL.pure rfl rfl rfl (PureOp.loads (vs := [.int .i64 ((nth tl g).1), .slice ((nth tl g).2.1.ao) ((nth tl g).2.1.l.length) ((nth tl g).2.1.cap), .int .i64 ((nth tl g).2.2)]) Try.underlying99 rfl rfl (fun _ => (RowIs.in_ sR g 0 3 (by first | omega | exact at_max (by decide)) (by omega))) sz99) ?_
              refine SL.calln (fun L n => FLs L n 400) rfl rfl rfl rfl rfl rfl callable42 (fun w hw => routef_any w (nth tl g) (hH.s.below hw.below) hH.z) ?_
              intro qa qc qn qL hqL
              have hqLl := hqL.ln.le
              refine SL.norm [_, _, _, _, _] rfl ?_
              have hI_ := inner_ok ao3_ qa (n_ + 1) cap3_ qn qc (120000380 + 401 * g + 1) (400) (L ++ [((6 : Int), (((⟨#[114, 111, 117, 116, 105, 110, 103, 32]⟩) ++ (decS ((g : Nat) : Int))) : ByteArray))]) qL ((⟨#[114, 111, 117, 116, 105, 110, 103, 32]⟩) ++ (decS ((g : Nat) : Int))) (by first | exact hF.mono (by omega) | exact hF.snoc.mono (by omega)) hqL (at_sz (by decide)) (by omega) w0
              refine SL.callM [2, 4] rfl rfl rfl rfl rfl rfl callable40 (by decide) (hI_) rfl (fun _ _ => rfl) ?_
              rintro ⟨ma, mc, mL⟩ hM
              refine SL.norm [_, _, _, _, _] rfl ?_
              refine SL.pure rfl rfl rfl (PureOp.assign rfl) ?_
              refine SL.nil ?_
              refine QX.normal_in ?_
              refine QX.then_ ?_
              refine WC.region ?_
              refine SL.pure rfl rfl rfl (PureOp.move rfl) ?_
              refine SL.pure rfl rfl rfl (PureOp.addN (k := 1) rfl rfl (fun _ => by first | omega | exact at_max (by decide))) ?_
              refine SL.pure rfl rfl rfl (PureOp.assign rfl) ?_
              refine SL.nil ?_
              refine QX.round (σ := Nat × Option Addr × Nat × Nat × List NF) (Ef := fun q_ => [(0, 0, .agg #[.slice aao an acap, .slice u3.ao u3.l.length u3.cap]), (1, 0, .agg #[.slice fao fn fcap, .slice rao rn rcap, .slice u1.ao u1.l.length u1.cap, .slice u2.ao u2.l.length u2.cap]), (2, 0, .pointer (some ⟨b1, 0, none⟩)), (3, 0, .pointer (some ⟨b2, 0, none⟩)), (4, 0, .slice none 0 0), (6, 0, .int .i64 ((i : Nat) : Int)), (9, 0, .int .i64 ((r : Nat) : Int)), (17, 0, .pointer (some ⟨b2, 0, none⟩)), (18, 0, .slice fao fn fcap), (19, 0, .int .i64 ((fn : Nat) : Int)), (20, 0, .bool (decide (512 < ((fn : Nat) : Int)))), (25, 0, .int .i64 ((i : Nat) : Int)), (26, 0, .pointer (some ⟨b2, 0, none⟩)), (27, 0, .slice fao fn fcap), (28, 0, .int .i64 ((fn : Nat) : Int)), (29, 0, .bool (decide (((i : Nat) : Int) < ((fn : Nat) : Int)))), (57, 0, .int .i64 ((r : Nat) : Int)), (58, 0, .pointer (some ⟨b2, 1, none⟩)), (59, 0, .slice rao rn rcap), (60, 0, .int .i64 ((rn : Nat) : Int)), (61, 0, .bool (decide (((r : Nat) : Int) < ((rn : Nat) : Int)))), (13, 0, .int .i64 ((q_.1 : Nat) : Int)), (5, 0, .slice q_.2.1 q_.2.2.2.1 q_.2.2.1)]) (Hf := fun q_ => [Item.cells b1 [.slice aao an acap, .slice u3.ao u3.l.length u3.cap] 39, Item.cells b2 [.slice fao fn fcap, .slice rao rn rcap, .slice u1.ao u1.l.length u1.cap, .slice u2.ao u2.l.length u2.cap] 27, Item.own w0.heap.size q_.2.1 q_.2.2.2.1 q_.2.2.1 93 2 (cellsOf encNF (q_.2.2.2.2))]) (I := fun q_ => q_.1 ≤ u1.l.length ∧ LnB q_.2.2.2.2 q_.2.2.2.1 (120000380 + 401 * q_.1)) (μ := fun q_ => u1.l.length - q_.1) (s := (g, a, c, n_, L)) 3 ((g + 1, ma, mc, (n_ + 1) + qn, mL)) ⟨⟨(by first | omega | (dsimp only; omega)), (by exact hM.mono (by omega))⟩, by first | omega | (dsimp only; omega)⟩ ⟨rfl, rfl, rfl, rfl, rfl, rfl, rfl, rfl, rfl, rfl, rfl, rfl, rfl, rfl, rfl, rfl, rfl, rfl, rfl, rfl, rfl, rfl, rfl, rfl, rfl, rfl, rfl, rfl, rfl, rfl, rfl, rfl, rfl, rfl, rfl, rfl, rfl, rfl, rfl, rfl, rfl, rfl, rfl, rfl, rfl, rfl, trivial⟩ rfl
            · try simp only [Bool.and_eq_true, Bool.or_eq_true, Bool.not_eq_true', Bool.not_eq_false', Bool.and_eq_false_iff, Bool.or_eq_false_iff, decide_eq_true_eq, decide_eq_false_iff_not, Int.not_lt, Int.not_le, ne_eq, Decidable.not_not] at h9
              refine WC.skip ?_
              refine QX.then_ ?_
              refine WC.region ?_
              refine SL.pure rfl rfl rfl (PureOp.move rfl) ?_
              refine SL.pure rfl rfl rfl (PureOp.move rfl) ?_
              refine SL.pure rfl rfl rfl (PureOp.fieldAddrT 2 Try.underlying27 rfl sz24 rfl rfl) ?_
              refine SL.pure rfl rfl rfl (PureOp.load (v := .slice u1.ao u1.l.length u1.cap) Try.underlying24 rfl rfl (fun _ => (CellIs.cells 1 rfl rfl))) ?_
              refine SL.pure rfl rfl rfl (PureOp.move rfl) ?_
              refine SL.pure rfl rfl rfl (PureOp.indexAddrN Try.underlying24 sz99 rfl rfl (AoOk.in_ sR) (fun _ => by first | omega | exact at_max (by decide))) ?_
              refine SL.pure rfl rfl rfl (PureOp.loads (vs := [.int .i64 ((nth tl g).1), .slice ((nth tl g).2.1.ao) ((nth tl g).2.1.l.length) ((nth tl g).2.1.cap), .int .i64 ((nth tl g).2.2)]) Try.underlying99 rfl rfl (fun _ => (RowIs.in_ sR g 0 3 (by first | omega | exact at_max (by decide)) (by omega))) sz99) ?_
              refine SL.calln (fun L n => FLs L n 400) rfl rfl rfl rfl rfl rfl callable42 (fun w hw => routef_any w (nth tl g) (hH.s.below hw.below) hH.z) ?_
              intro qa qc qn qL hqL
              have hqLl := hqL.ln.le
              refine SL.norm [_, _, _, _] rfl ?_
              have hI_ := inner_ok a qa n_ c qn qc (120000380 + 401 * g + 1) (400) L qL ((⟨#[114, 111, 117, 116, 105, 110, 103, 32]⟩) ++ (decS ((g : Nat) : Int))) (by first | exact hF.mono (by omega) | exact hF.snoc.mono (by omega)) hqL (at_sz (by decide)) (by omega) w0
              refine SL.callM [2, 3] rfl rfl rfl rfl rfl rfl callable40 (by decide) (hI_) rfl (fun _ _ => rfl) ?_
              rintro ⟨ma, mc, mL⟩ hM
              refine SL.norm [_, _, _, _] rfl ?_
              refine SL.pure rfl rfl rfl (PureOp.assign rfl) ?_
              refine SL.nil ?_
              refine QX.normal_in ?_
              refine QX.then_ ?_
              refine WC.region ?_
              refine SL.pure rfl rfl rfl (PureOp.move rfl) ?_
              refine SL.pure rfl rfl rfl (PureOp.addN (k := 1) rfl rfl (fun _ => by first | omega | exact at_max (by decide))) ?_
              refine SL.pure rfl rfl rfl (PureOp.assign rfl) ?_
              refine SL.nil ?_
              refine QX.round (σ := Nat × Option Addr × Nat × Nat × List NF) (Ef := fun q_ => [(0, 0, .agg #[.slice aao an acap, .slice u3.ao u3.l.length u3.cap]), (1, 0, .agg #[.slice fao fn fcap, .slice rao rn rcap, .slice u1.ao u1.l.length u1.cap, .slice u2.ao u2.l.length u2.cap]), (2, 0, .pointer (some ⟨b1, 0, none⟩)), (3, 0, .pointer (some ⟨b2, 0, none⟩)), (4, 0, .slice none 0 0), (6, 0, .int .i64 ((i : Nat) : Int)), (9, 0, .int .i64 ((r : Nat) : Int)), (17, 0, .pointer (some ⟨b2, 0, none⟩)), (18, 0, .slice fao fn fcap), (19, 0, .int .i64 ((fn : Nat) : Int)), (20, 0, .bool (decide (512 < ((fn : Nat) : Int)))), (25, 0, .int .i64 ((i : Nat) : Int)), (26, 0, .pointer (some ⟨b2, 0, none⟩)), (27, 0, .slice fao fn fcap), (28, 0, .int .i64 ((fn : Nat) : Int)), (29, 0, .bool (decide (((i : Nat) : Int) < ((fn : Nat) : Int)))), (57, 0, .int .i64 ((r : Nat) : Int)), (58, 0, .pointer (some ⟨b2, 1, none⟩)), (59, 0, .slice rao rn rcap), (60, 0, .int .i64 ((rn : Nat) : Int)), (61, 0, .bool (decide (((r : Nat) : Int) < ((rn : Nat) : Int)))), (13, 0, .int .i64 ((q_.1 : Nat) : Int)), (5, 0, .slice q_.2.1 q_.2.2.2.1 q_.2.2.1)]) (Hf := fun q_ => [Item.cells b1 [.slice aao an acap, .slice u3.ao u3.l.length u3.cap] 39, Item.cells b2 [.slice fao fn fcap, .slice rao rn rcap, .slice u1.ao u1.l.length u1.cap, .slice u2.ao u2.l.length u2.cap] 27, Item.own w0.heap.size q_.2.1 q_.2.2.2.1 q_.2.2.1 93 2 (cellsOf encNF (q_.2.2.2.2))]) (I := fun q_ => q_.1 ≤ u1.l.length ∧ LnB q_.2.2.2.2 q_.2.2.2.1 (120000380 + 401 * q_.1)) (μ := fun q_ => u1.l.length - q_.1) (s := (g, a, c, n_, L)) 3 ((g + 1, ma, mc, n_ + qn, mL)) ⟨⟨(by first | omega | (dsimp only; omega)), (by exact hM.mono (by omega))⟩, by first | omega | (dsimp only; omega)⟩ ⟨rfl, rfl, rfl, rfl, rfl, rfl, rfl, rfl, rfl, rfl, rfl, rfl, rfl, rfl, rfl, rfl, rfl, rfl, rfl, rfl, rfl, rfl, rfl, rfl, rfl, rfl, rfl, rfl, rfl, rfl, rfl, rfl, rfl, rfl, rfl, rfl, rfl, rfl, rfl, rfl, rfl, rfl, rfl, rfl, rfl, rfl, trivial⟩ rfl
        · try simp only [Bool.and_eq_true, Bool.or_eq_true, Bool.not_eq_true', Bool.not_eq_false', Bool.and_eq_false_iff, Bool.or_eq_false_iff, decide_eq_true_eq, decide_eq_false_iff_not, Int.not_lt, Int.not_le, ne_eq, Decidable.not_not] at h7
          refine WC.exit ?_
          refine QX.exit_then ?_
          refine QX.exit_then ?_
          refine QX.exit_hit ?_
          refine QX.then_ ?_
          refine WC.seq ?_
          refine WC.region ?_
          refine SL.pure rfl rfl rfl (PureOp.move rfl) ?_
          refine SL.pure rfl rfl rfl (PureOp.assign rfl) ?_
          refine SL.nil_then ?_
          refine WC.ret ?_
          refine QX.ret1 rfl rfl ?_
          intro w hw
          exact ⟨a, c, n_, L, rfl, hF.mono (by omega), hw.mem (i := 2) rfl⟩

end Go.Proofs.Ytblmafknmeicfaa
