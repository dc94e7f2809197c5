import Derived.Test.YtblmafknmeicfaaKnA
import Derived.Test.YtblmafknmeicfaaPrD
import Derived.Test.YtblmafknmeicfaaAny
namespace Go.Proofs.Ytblmafknmeicfaa
open Go Go.RowKit Eng
set_option linter.unusedVariables false
set_option linter.unusedSimpArgs false

theorem SliceIn.sub0 {w : World} {sz : Nat} {ao : Option Addr} {n cap hi : Nat} {F : Nat → Nat → Value} (h : SliceIn w sz ao n cap F) (h2 : hi ≤ n) : SliceIn w sz (subAo ao cap 0 sz) (hi - 0) (cap - 0) F :=
  (h.sub 0 hi (Nat.zero_le _) h2).congr fun i hi j hj => by rw [Nat.zero_add]
theorem ruleX_in {w : World} {fl : List Fa} {rl : List Ru} (hcm : ∀ r ∈ rl, SliceIn w 1 r.2.2.1.ao r.2.2.1.l.length r.2.2.1.cap (rowsF encI r.2.2.1.l)) (x : Pt) : SliceIn w 1 (ruleX fl rl x).2.2.1.ao (ruleX fl rl x).2.2.1.l.length (ruleX fl rl x).2.2.1.cap (rowsF encI (ruleX fl rl x).2.2.1.l) := by
  unfold ruleX
  rcases ruleE_mem (fareP fl x).2.2.2.2.2.2.2.1 rl with h | h
  · exact hcm _ h
  · rw [h]; exact ⟨Nat.le_refl _, by simp [ru0, maxLen], .inl rfl, fun i hi => absurd hi (by simp [ru0])⟩
set_option maxHeartbeats 4000000 in
set_option maxRecDepth 100000 in
theorem mixedw_ok (u1 u2 : SliceV Unit) (fl : List Fa) (rl : List Ru) (rao : Option Addr) (rn rcap : Nat) (fao : Option Addr) (fn fcap : Nat) (hfn : fn = fl.length) (hrn : rn = rl.length) (w0 : World) (hf : SliceIn w0 9 fao fn fcap (rowsF enc52 fl)) (hr : SliceIn w0 15 rao rn rcap (rowsF enc76 rl)) (hfb : fn ≤ 1000) (hrb : rn ≤ 1000) (hcm : ∀ r ∈ rl, SliceIn w0 1 r.2.2.1.ao r.2.2.1.l.length r.2.2.1.cap (rowsF encI r.2.2.1.l)) (pl : List Pt) (pao : Option Addr) (pn pcap : Nat) (hpn : pn = pl.length) (hp : SliceIn w0 4 pao pn pcap (rowsF enc42 pl)) (hpb : pn ≤ 1000) : FnC Try.prog 12 [.agg #[.slice fao fn fcap, .slice rao rn rcap, .slice u1.ao u1.l.length u1.cap, .slice u2.ao u2.l.length u2.cap], .slice pao pn pcap] w0 fun v w' => v = .int .i64 (mixedE (allK (prF fn pl) pl.length) pn (mixX fl rl pl)) := by
  have hple := hp.le
  refine fnc (N := 38) Try.func12 rfl rfl rfl ?_
  refine WC.seq ?_
  refine WC.region ?_
  refine SL.box rfl rfl rfl (fun b1 hb1 => ?_)
  refine SL.norm [_] rfl ?_
  refine SL.pure rfl rfl rfl (PureOp.assign rfl) ?_
  refine SL.nil_then ?_
  refine WC.seq ?_
  refine WC.seq ?_
  refine WC.region ?_
  refine SL.pure rfl rfl rfl (PureOp.loads (vs := [.slice fao fn fcap, .slice rao rn rcap, .slice u1.ao u1.l.length u1.cap, .slice u2.ao u2.l.length u2.cap]) Try.underlying27 rfl rfl (fun _ => (RowIs.cells 0 0 4 rfl rfl)) sz27) ?_
  refine SL.pure rfl rfl rfl (PureOp.move rfl) ?_
  refine SL.calle rfl rfl rfl rfl rfl rfl callable19 (fun w hw => priced_ok u1 u2 fl rao rn rcap fao fn fcap hfn w (hf.below hw.below) hfb pl pao pn pcap hpn (hp.below hw.below) hpb) ?_
  refine SL.norm [_] rfl ?_
  refine SL.pure rfl rfl rfl (PureOp.not rfl) ?_
  refine SL.nil_then ?_
  refine WC.cond rfl (fun h1 => ?_) (fun h1 => ?_)
  · try simp only [Bool.and_eq_true, Bool.or_eq_true, Bool.not_eq_true', Bool.not_eq_false', Bool.and_eq_false_iff, Bool.or_eq_false_iff, decide_eq_true_eq, decide_eq_false_iff_not, Int.not_lt, Int.not_le, ne_eq, Decidable.not_not] at h1
    refine WC.seq ?_
    refine WC.region ?_
    refine SL.pure rfl rfl rfl (PureOp.assign rfl) ?_
    refine SL.nil_then ?_
    refine WC.ret ?_
    refine QX.ret_then ?_
    refine QX.ret1 rfl rfl ?_
    intro w hw
    rw [mixed_un (by simpa using h1)]
  · try simp only [Bool.and_eq_true, Bool.or_eq_true, Bool.not_eq_true', Bool.not_eq_false', Bool.and_eq_false_iff, Bool.or_eq_false_iff, decide_eq_true_eq, decide_eq_false_iff_not, Int.not_lt, Int.not_le, ne_eq, Decidable.not_not] at h1
    have hfa : ∀ j, j < pn → 0 ≤ (nth pl j).2.2.1 ∧ (nth pl j).2.2.1 < fn := fun j hj => priced_at (by simpa using h1) (by omega)
    refine WC.skip ?_
    refine QX.then_ ?_
    refine WC.seq ?_
    refine WC.seq ?_
    refine WC.region ?_
    refine SL.pure rfl rfl rfl (PureOp.move rfl) ?_
    refine SL.pure rfl rfl rfl (PureOp.len rfl Try.underlying28) ?_
    refine SL.pure rfl rfl rfl (PureOp.move rfl) ?_
    refine SL.nil_then ?_
    refine WC.block ?_
    refine WC.loop (σ := Nat) (fun q_ => [(0, 0, .agg #[.slice fao fn fcap, .slice rao rn rcap, .slice u1.ao u1.l.length u1.cap, .slice u2.ao u2.l.length u2.cap]), (1, 0, .slice pao pn pcap), (2, 0, .pointer (some ⟨b1, 0, none⟩)), (9, 0, .agg #[.slice fao fn fcap, .slice rao rn rcap, .slice u1.ao u1.l.length u1.cap, .slice u2.ao u2.l.length u2.cap]), (10, 0, .slice pao pn pcap), (11, 0, .bool (allK (prF fn pl) pl.length)), (12, 0, .bool (!(allK (prF fn pl) pl.length))), (13, 0, .slice pao pn pcap), (14, 0, .int .i64 ((pn : Nat) : Int)), (15, 0, .int .i64 ((q_ : Nat) : Int))]) (fun q_ => [Item.cells b1 [.slice fao fn fcap, .slice rao rn rcap, .slice u1.ao u1.l.length u1.cap, .slice u2.ao u2.l.length u2.cap] 27]) (fun q_ => q_ ≤ pn ∧ allK (fun i => allK (fun j => mixX fl rl pl i j) i) q_ = true) (fun q_ => pn - q_) 1 (0) (⟨Nat.zero_le _, rfl⟩) ⟨rfl, rfl, rfl, rfl, rfl, rfl, rfl, rfl, rfl, rfl, rfl, rfl, rfl, rfl, rfl, rfl, rfl, rfl, rfl, rfl, trivial⟩ rfl ?_
    rintro i ⟨hi, hz1⟩
    refine WC.seq ?_
    refine WC.region ?_
    refine SL.pure rfl rfl rfl (PureOp.lss rfl rfl) ?_
    refine SL.nil_then ?_
    refine WC.seq ?_
    refine WC.cond rfl (fun h2 => ?_) (fun h2 => ?_)
    · try simp only [Bool.and_eq_true, Bool.or_eq_true, Bool.not_eq_true', Bool.not_eq_false', Bool.and_eq_false_iff, Bool.or_eq_false_iff, decide_eq_true_eq, decide_eq_false_iff_not, Int.not_lt, Int.not_le, ne_eq, Decidable.not_not] at h2
      refine WC.skip ?_
      refine QX.then_ ?_
      refine WC.seq ?_
      refine WC.block ?_
      refine WC.seq ?_
      refine WC.region ?_
      refine SL.pure rfl rfl rfl (PureOp.move rfl) ?_
      refine SL.pure rfl rfl rfl (PureOp.indexAddrN Try.underlying28 sz42 rfl rfl (AoOk.in_ hp) (fun _ => by omega)) ?_
      refine SL.pure rfl rfl rfl (PureOp.loads (vs := [.int .i64 ((nth pl i).1), .int .i64 ((nth pl i).2.1), .int .i64 ((nth pl i).2.2.1), .int .i64 ((nth pl i).2.2.2)]) Try.underlying42 rfl rfl (fun _ => (RowIs.in_ hp i 0 4 (by omega) (by omega))) sz42) ?_
      refine SL.alloc rfl rfl zero42 (fun b2 hb2 => ?_)
      refine SL.norm [_, _] rfl ?_
      refine SL.pure rfl rfl rfl (PureOp.assign rfl) ?_
      refine SL.store 1 rfl rfl rfl rfl sz42 rfl rfl ?_
      refine SL.norm [_, _] rfl ?_
      refine SL.nil_then ?_
      refine WC.seq ?_
      refine WC.region ?_
      refine SL.pure rfl rfl rfl (PureOp.move rfl) ?_
      refine SL.pure rfl rfl rfl (PureOp.move rfl) ?_
      refine SL.pure rfl rfl rfl (PureOp.sliceh Try.underlying28 sz42 rfl rfl (fun _ => by omega)) ?_
      refine SL.pure rfl rfl rfl (PureOp.len rfl Try.underlying28) ?_
      refine SL.pure rfl rfl rfl (PureOp.move rfl) ?_
      refine SL.nil_then ?_
      refine WC.block ?_
      refine WC.loop (σ := Nat) (fun q_ => [(0, 0, .agg #[.slice fao fn fcap, .slice rao rn rcap, .slice u1.ao u1.l.length u1.cap, .slice u2.ao u2.l.length u2.cap]), (1, 0, .slice pao pn pcap), (2, 0, .pointer (some ⟨b1, 0, none⟩)), (5, 0, .int .i64 ((i : Nat) : Int)), (6, 0, .pointer (some ⟨b2, 0, none⟩)), (9, 0, .agg #[.slice fao fn fcap, .slice rao rn rcap, .slice u1.ao u1.l.length u1.cap, .slice u2.ao u2.l.length u2.cap]), (10, 0, .slice pao pn pcap), (11, 0, .bool (allK (prF fn pl) pl.length)), (12, 0, .bool (!(allK (prF fn pl) pl.length))), (13, 0, .slice pao pn pcap), (14, 0, .int .i64 ((pn : Nat) : Int)), (15, 0, .int .i64 ((i : Nat) : Int)), (16, 0, .bool (decide (((i : Nat) : Int) < ((pn : Nat) : Int)))), (17, 0, .int .i64 ((i : Nat) : Int)), (18, 0, .pointer (some ⟨blk pao, off pao + i * 4, none⟩)), (19, 0, .agg #[.int .i64 ((nth pl i).1), .int .i64 ((nth pl i).2.1), .int .i64 ((nth pl i).2.2.1), .int .i64 ((nth pl i).2.2.2)]), (20, 0, .slice pao pn pcap), (21, 0, .int .i64 ((i : Nat) : Int)), (22, 0, .slice (subAo pao pcap 0 4) (i - 0) (pcap - 0)), (23, 0, .int .i64 ((i - 0 : Nat) : Int)), (24, 0, .int .i64 ((q_ : Nat) : Int))]) (fun q_ => [Item.cells b1 [.slice fao fn fcap, .slice rao rn rcap, .slice u1.ao u1.l.length u1.cap, .slice u2.ao u2.l.length u2.cap] 27, Item.cells b2 [.int .i64 ((nth pl i).1), .int .i64 ((nth pl i).2.1), .int .i64 ((nth pl i).2.2.1), .int .i64 ((nth pl i).2.2.2)] 42]) (fun q_ => q_ ≤ i ∧ allK (fun j => mixX fl rl pl i j) q_ = true) (fun q_ => i - q_) 2 (0) (⟨Nat.zero_le _, rfl⟩) ⟨rfl, rfl, rfl, rfl, rfl, rfl, rfl, rfl, rfl, rfl, rfl, rfl, rfl, rfl, rfl, rfl, rfl, rfl, rfl, rfl, rfl, rfl, rfl, rfl, rfl, rfl, rfl, rfl, rfl, rfl, rfl, rfl, rfl, rfl, rfl, rfl, rfl, rfl, rfl, rfl, rfl, rfl, trivial⟩ rfl ?_
      rintro j ⟨hj, hz2⟩
      refine WC.seq ?_
      refine WC.region ?_
      refine SL.pure rfl rfl rfl (PureOp.lss rfl rfl) ?_
      refine SL.nil_then ?_
      refine WC.seq ?_
      refine WC.cond rfl (fun h3 => ?_) (fun h3 => ?_)
      · try simp only [Bool.and_eq_true, Bool.or_eq_true, Bool.not_eq_true', Bool.not_eq_false', Bool.and_eq_false_iff, Bool.or_eq_false_iff, decide_eq_true_eq, decide_eq_false_iff_not, Int.not_lt, Int.not_le, ne_eq, Decidable.not_not] at h3
        refine WC.skip ?_
        refine QX.then_ ?_
        refine WC.seq ?_
        refine WC.block ?_
        refine WC.seq ?_
        refine WC.region ?_
        refine SL.pure rfl rfl rfl (PureOp.indexAddrN Try.underlying28 sz42 rfl rfl (AoOk.any (fun w hw => SliceIn.sub0 (hp.below hw.below) (show i ≤ pn by omega))) (fun _ => by omega)) ?_
        refine SL.pure rfl rfl rfl (PureOp.loads (vs := [.int .i64 ((nth pl j).1), .int .i64 ((nth pl j).2.1), .int .i64 ((nth pl j).2.2.1), .int .i64 ((nth pl j).2.2.2)]) Try.underlying42 rfl rfl (fun _ => (RowIs.any (fun w hw => SliceIn.sub0 (hp.below hw.below) (show i ≤ pn by omega)) j 0 4 (by omega) (by omega))) sz42) ?_
        refine SL.alloc rfl rfl zero42 (fun b3 hb3 => ?_)
        refine SL.norm [_, _, _] rfl ?_
        refine SL.store 2 rfl rfl rfl rfl sz42 rfl rfl ?_
        refine SL.norm [_, _, _] rfl ?_
        refine SL.nil_then ?_
        refine WC.seq ?_
        refine WC.drawH 8 [false, false, false, false, false, false, false, false] rfl rfl rfl ?_
        refine SD.take 0 [true, false, false, false, false, false, false, false] rfl (by kernel_rfl) rfl (fun _ h => h) rfl rfl rfl (PureOp.loads (vs := [.slice fao fn fcap, .slice rao rn rcap, .slice u1.ao u1.l.length u1.cap, .slice u2.ao u2.l.length u2.cap]) Try.underlying27 rfl rfl (fun _ => (RowIs.cells 0 0 4 rfl rfl)) sz27) ?_
        refine SD.take 1 [true, true, false, false, false, false, false, false] rfl (by kernel_rfl) rfl (fun _ h => h) rfl rfl rfl (PureOp.loads (vs := [.int .i64 ((nth pl i).1), .int .i64 ((nth pl i).2.1), .int .i64 ((nth pl i).2.2.1), .int .i64 ((nth pl i).2.2.2)]) Try.underlying42 rfl rfl (fun _ => (RowIs.cells 1 0 4 rfl rfl)) sz42) ?_
        refine SD.take 3 [true, true, false, true, false, false, false, false] rfl (by kernel_rfl) rfl (fun _ h => h) rfl rfl rfl (PureOp.loads (vs := [.slice fao fn fcap, .slice rao rn rcap, .slice u1.ao u1.l.length u1.cap, .slice u2.ao u2.l.length u2.cap]) Try.underlying27 rfl rfl (fun _ => (RowIs.cells 0 0 4 rfl rfl)) sz27) ?_
        refine SD.take 4 [true, true, false, true, true, false, false, false] rfl (by kernel_rfl) rfl (fun _ h => h) rfl rfl rfl (PureOp.loads (vs := [.int .i64 ((nth pl j).1), .int .i64 ((nth pl j).2.1), .int .i64 ((nth pl j).2.2.1), .int .i64 ((nth pl j).2.2.2)]) Try.underlying42 rfl rfl (fun _ => (RowIs.cells 2 0 4 rfl rfl)) sz42) ?_
        refine SD.one 2 [true, true, true, true, true, false, false, false] (by kernel_rfl) rfl rfl ?_
        refine SL.calle rfl rfl rfl rfl rfl rfl callable27 (fun w hw => ruleof_ok u1 u2 fl rl rao rn rcap fao fn fcap hfn hrn w (hf.below hw.below) (hr.below hw.below) hfb hrb (nth pl i) (hfa i (by omega))) ?_
        refine SL.norm [_, _, _] rfl ?_
        refine SD.back (fun _ h => h) ?_
        refine SD.one 5 [true, true, true, true, true, true, false, false] (by kernel_rfl) rfl rfl ?_
        refine SL.calle rfl rfl rfl rfl rfl rfl callable27 (fun w hw => ruleof_ok u1 u2 fl rl rao rn rcap fao fn fcap hfn hrn w (hf.below hw.below) (hr.below hw.below) hfb hrb (nth pl j) (hfa j (by omega))) ?_
        refine SL.norm [_, _, _] rfl ?_
        refine SD.back (fun _ h => h) ?_
        refine SD.one 6 [true, true, true, true, true, true, true, false] (by kernel_rfl) rfl rfl ?_
        refine SL.calle rfl rfl rfl rfl rfl rfl callable26 (fun w hw => mix_ok (ruleX fl rl (nth pl i)) (ruleX fl rl (nth pl j)) w (ruleX_in (fun r hr => (hcm r hr).below hw.below) _) (ruleX_in (fun r hr => (hcm r hr).below hw.below) _)) ?_
        refine SL.norm [_, _, _] rfl ?_
        refine SD.back (fun _ h => h) ?_
        refine SD.take 7 [true, true, true, true, true, true, true, true] rfl (by kernel_rfl) rfl (fun _ h => h) rfl rfl rfl (PureOp.not rfl) ?_
        refine SD.done (by kernel_rfl) ?_
        refine QX.ofK ?_
        refine QX.then_ ?_
        refine WC.cond rfl (fun h4 => ?_) (fun h4 => ?_)
        · try simp only [Bool.and_eq_true, Bool.or_eq_true, Bool.not_eq_true', Bool.not_eq_false', Bool.and_eq_false_iff, Bool.or_eq_false_iff, decide_eq_true_eq, decide_eq_false_iff_not, Int.not_lt, Int.not_le, ne_eq, Decidable.not_not] at h4
          refine WC.seq ?_
          refine WC.region ?_
          refine SL.pure rfl rfl rfl (PureOp.assign rfl) ?_
          refine SL.nil_then ?_
          refine WC.ret ?_
          refine QX.ret_in ?_
          refine QX.ret_then ?_
          refine QX.ret_then ?_
          refine QX.ret_in ?_
          refine QX.ret_in ?_
          refine QX.ret_then ?_
          refine QX.ret_then ?_
          refine QX.ret_in ?_
          refine QX.ret_then ?_
          refine QX.ret1 rfl rfl ?_
          intro w hw
          rw [mixed_bad (by simpa using h1) (i := i) (j := j) (by omega) (by omega) h4]
        · try simp only [Bool.and_eq_true, Bool.or_eq_true, Bool.not_eq_true', Bool.not_eq_false', Bool.and_eq_false_iff, Bool.or_eq_false_iff, decide_eq_true_eq, decide_eq_false_iff_not, Int.not_lt, Int.not_le, ne_eq, Decidable.not_not] at h4
          refine WC.skip ?_
          refine QX.normal_in ?_
          refine QX.then_ ?_
          refine WC.region ?_
          refine SL.pure rfl rfl rfl (PureOp.addN (k := 1) rfl rfl (fun _ => by omega)) ?_
          refine SL.pure rfl rfl rfl (PureOp.move rfl) ?_
          refine SL.nil ?_
          refine QX.round 2 (j + 1) ⟨⟨(by first | omega | (dsimp only; omega)), allK_next hz2 h4⟩, by first | omega | (dsimp only; omega)⟩ ⟨rfl, rfl, rfl, rfl, rfl, rfl, rfl, rfl, rfl, rfl, rfl, rfl, rfl, rfl, rfl, rfl, rfl, rfl, rfl, rfl, rfl, rfl, rfl, rfl, rfl, rfl, rfl, rfl, rfl, rfl, rfl, rfl, rfl, rfl, rfl, rfl, rfl, rfl, rfl, rfl, rfl, rfl, trivial⟩ rfl
      · try simp only [Bool.and_eq_true, Bool.or_eq_true, Bool.not_eq_true', Bool.not_eq_false', Bool.and_eq_false_iff, Bool.or_eq_false_iff, decide_eq_true_eq, decide_eq_false_iff_not, Int.not_lt, Int.not_le, ne_eq, Decidable.not_not] at h3
        refine WC.exit ?_
        refine QX.exit_then ?_
        refine QX.exit_then ?_
        refine QX.exit_hit ?_
        refine QX.normal_in ?_
        refine QX.then_ ?_
        refine WC.region ?_
        refine SL.pure rfl rfl rfl (PureOp.addN (k := 1) rfl rfl (fun _ => by omega)) ?_
        refine SL.pure rfl rfl rfl (PureOp.move rfl) ?_
        refine SL.nil ?_
        refine QX.round 1 (i + 1) ⟨⟨(by first | omega | (dsimp only; omega)), allK_next hz1 (by have e : i = j := (by omega); subst e; exact hz2)⟩, by first | omega | (dsimp only; omega)⟩ ⟨rfl, rfl, rfl, rfl, rfl, rfl, rfl, rfl, rfl, rfl, rfl, rfl, rfl, rfl, rfl, rfl, rfl, rfl, rfl, rfl, trivial⟩ rfl
    · try simp only [Bool.and_eq_true, Bool.or_eq_true, Bool.not_eq_true', Bool.not_eq_false', Bool.and_eq_false_iff, Bool.or_eq_false_iff, decide_eq_true_eq, decide_eq_false_iff_not, Int.not_lt, Int.not_le, ne_eq, Decidable.not_not] at h2
      refine WC.exit ?_
      refine QX.exit_then ?_
      refine QX.exit_then ?_
      refine QX.exit_hit ?_
      refine QX.then_ ?_
      refine WC.seq ?_
      refine WC.region ?_
      refine SL.pure rfl rfl rfl (PureOp.assign rfl) ?_
      refine SL.nil_then ?_
      refine WC.ret ?_
      refine QX.ret1 rfl rfl ?_
      intro w hw
      rw [mixed_ok (by simpa using h1) (by rw [show pn = i from by omega]; exact hz1)]

set_option maxHeartbeats 4000000 in
set_option maxRecDepth 100000 in
theorem find_ok (u3 : SliceV Unit) (al : List Ai) (aao : Option Addr) (an acap : Nat) (han : an = al.length) (w0 : World) (sA : SliceIn w0 5 aao an acap (rowsF enc88 al)) (hab : an ≤ 1000) (cd : ByteArray) : FnC Try.prog 48 [.agg #[.slice aao an acap, .slice u3.ao u3.l.length u3.cap], .string cd] w0 fun v w' => v = .tuple #[.agg (enc88 (findE al cd).1).toArray, .bool (findE al cd).2] := by
  refine fnc (N := 22) Try.func48 rfl rfl rfl ?_
  refine WC.seq ?_
  refine WC.region ?_
  refine SL.box rfl rfl rfl (fun b1 hb1 => ?_)
  refine SL.norm [_] rfl ?_
  refine SL.alloc rfl rfl zero88 (fun b2 hb2 => ?_)
  refine SL.norm [_, _] rfl ?_
  refine SL.pure rfl rfl rfl (PureOp.assign rfl) ?_
  refine SL.nil_then ?_
  refine WC.seq ?_
  refine WC.seq ?_
  refine WC.region ?_
  refine SL.pure rfl rfl rfl (PureOp.fieldAddrT 0 Try.underlying39 rfl sz36 rfl rfl) ?_
  refine SL.pure rfl rfl rfl (PureOp.load (v := .slice aao an acap) Try.underlying36 rfl rfl (fun _ => (CellIs.cells 0 rfl rfl))) ?_
  refine SL.pure rfl rfl rfl (PureOp.len rfl Try.underlying36) ?_
  refine SL.pure rfl rfl rfl (PureOp.move rfl) ?_
  refine SL.nil_then ?_
  refine WC.block ?_
  refine WC.loop (σ := Nat) (fun q_ => [(0, 0, .agg #[.slice aao an acap, .slice u3.ao u3.l.length u3.cap]), (1, 0, .string cd), (2, 0, .pointer (some ⟨b1, 0, none⟩)), (4, 0, .pointer (some ⟨b2, 0, none⟩)), (8, 0, .pointer (some ⟨b1, 0, none⟩)), (9, 0, .slice aao an acap), (10, 0, .int .i64 ((an : Nat) : Int)), (11, 0, .int .i64 ((q_ : Nat) : Int))]) (fun q_ => [Item.cells b1 [.slice aao an acap, .slice u3.ao u3.l.length u3.cap] 39, Item.cells b2 [.string (⟨#[]⟩), .string (⟨#[]⟩), .string (⟨#[]⟩), .int .i64 0, .slice none 0 0] 88]) (fun q_ => q_ ≤ an ∧ findE (al.drop q_) cd = findE al cd) (fun q_ => an - q_) 2 (0) (⟨Nat.zero_le _, rfl⟩) ⟨rfl, rfl, rfl, rfl, rfl, rfl, rfl, rfl, rfl, rfl, rfl, rfl, rfl, rfl, rfl, rfl, trivial⟩ rfl ?_
  rintro k ⟨hk, hs⟩
  refine WC.seq ?_
  refine WC.region ?_
  refine SL.pure rfl rfl rfl (PureOp.lss rfl rfl) ?_
  refine SL.nil_then ?_
  refine WC.seq ?_
  refine WC.cond rfl (fun h1 => ?_) (fun h1 => ?_)
  · try simp only [Bool.and_eq_true, Bool.or_eq_true, Bool.not_eq_true', Bool.not_eq_false', Bool.and_eq_false_iff, Bool.or_eq_false_iff, decide_eq_true_eq, decide_eq_false_iff_not, Int.not_lt, Int.not_le, ne_eq, Decidable.not_not] at h1
    refine WC.skip ?_
    refine QX.then_ ?_
    refine WC.seq ?_
    refine WC.block ?_
    refine WC.seq ?_
    refine WC.region ?_
    refine SL.pure rfl rfl rfl (PureOp.indexAddrN Try.underlying36 sz88 rfl rfl (AoOk.in_ sA) (fun _ => by omega)) ?_
    refine SL.pure rfl rfl rfl (PureOp.loads (vs := [.string ((nth al k).1), .string ((nth al k).2.1), .string ((nth al k).2.2.1), .int .i64 ((nth al k).2.2.2.1), .slice ((nth al k).2.2.2.2.ao) ((nth al k).2.2.2.2.l.length) ((nth al k).2.2.2.2.cap)]) Try.underlying88 rfl rfl (fun _ => (RowIs.in_ sA k 0 5 (by omega) (by omega))) sz88) ?_
    refine SL.alloc rfl rfl zero88 (fun b3 hb3 => ?_)
    refine SL.norm [_, _, _] rfl ?_
    refine SL.store 2 rfl rfl rfl rfl sz88 rfl rfl ?_
    refine SL.norm [_, _, _] rfl ?_
    refine SL.nil_then ?_
    refine WC.seq ?_
    refine WC.region ?_
    refine SL.pure rfl rfl rfl (PureOp.fieldAddrT 0 Try.underlying88 rfl sz9 rfl rfl) ?_
    refine SL.pure rfl rfl rfl (PureOp.load (v := .string ((nth al k).1)) Try.underlying9 rfl rfl (fun _ => (CellIs.cells 2 rfl rfl))) ?_
    refine SL.pure rfl rfl rfl (PureOp.move rfl) ?_
    refine SL.pure rfl rfl rfl (PureOp.eqls rfl rfl) ?_
    refine SL.nil_then ?_
    refine WC.cond rfl (fun h2 => ?_) (fun h2 => ?_)
    · try simp only [Bool.and_eq_true, Bool.or_eq_true, Bool.not_eq_true', Bool.not_eq_false', Bool.and_eq_false_iff, Bool.or_eq_false_iff, decide_eq_true_eq, decide_eq_false_iff_not, Int.not_lt, Int.not_le, ne_eq, Decidable.not_not] at h2
      refine WC.seq ?_
      refine WC.region ?_
      refine SL.pure rfl rfl rfl (PureOp.loads (vs := [.string ((nth al k).1), .string ((nth al k).2.1), .string ((nth al k).2.2.1), .int .i64 ((nth al k).2.2.2.1), .slice ((nth al k).2.2.2.2.ao) ((nth al k).2.2.2.2.l.length) ((nth al k).2.2.2.2.cap)]) Try.underlying88 rfl rfl (fun _ => (RowIs.cells 2 0 5 rfl rfl)) sz88) ?_
      refine SL.store 1 rfl rfl rfl rfl sz88 rfl rfl ?_
      refine SL.norm [_, _, _] rfl ?_
      refine SL.pure rfl rfl rfl (PureOp.assign rfl) ?_
      refine SL.nil_then ?_
      refine WC.ret ?_
      refine QX.ret_in ?_
      refine QX.ret_then ?_
      refine QX.ret_then ?_
      refine QX.ret_in ?_
      refine QX.ret_then ?_
      refine QX.retv rfl (RVs.cons (RV.cell rfl Try.underlying88 rfl (RowIs.cells 1 0 5 rfl rfl) sz88) (RVs.cons (RV.tmp rfl) RVs.nil)) ?_
      intro w hw
      rw [findE_drop (by omega), if_pos (by simpa using h2)] at hs
      rw [← hs]; rfl
    · try simp only [Bool.and_eq_true, Bool.or_eq_true, Bool.not_eq_true', Bool.not_eq_false', Bool.and_eq_false_iff, Bool.or_eq_false_iff, decide_eq_true_eq, decide_eq_false_iff_not, Int.not_lt, Int.not_le, ne_eq, Decidable.not_not] at h2
      refine WC.skip ?_
      refine QX.normal_in ?_
      refine QX.then_ ?_
      refine WC.region ?_
      refine SL.pure rfl rfl rfl (PureOp.addN (k := 1) rfl rfl (fun _ => by omega)) ?_
      refine SL.pure rfl rfl rfl (PureOp.move rfl) ?_
      refine SL.nil ?_
      refine QX.round 2 (k + 1) ⟨⟨(by first | omega | (dsimp only; omega)), by rw [findE_drop (by omega), if_neg (by simpa using h2)] at hs; exact hs⟩, by first | omega | (dsimp only; omega)⟩ ⟨rfl, rfl, rfl, rfl, rfl, rfl, rfl, rfl, rfl, rfl, rfl, rfl, rfl, rfl, rfl, rfl, trivial⟩ rfl
  · try simp only [Bool.and_eq_true, Bool.or_eq_true, Bool.not_eq_true', Bool.not_eq_false', Bool.and_eq_false_iff, Bool.or_eq_false_iff, decide_eq_true_eq, decide_eq_false_iff_not, Int.not_lt, Int.not_le, ne_eq, Decidable.not_not] at h1
    refine WC.exit ?_
    refine QX.exit_then ?_
    refine QX.exit_then ?_
    refine QX.exit_hit ?_
    refine QX.then_ ?_
    refine WC.seq ?_
    refine WC.region ?_
    refine SL.pure rfl rfl rfl (PureOp.build bld88 rfl rfl) ?_
    refine SL.store 1 rfl rfl rfl rfl sz88 rfl rfl ?_
    refine SL.norm [_, _] rfl ?_
    refine SL.pure rfl rfl rfl (PureOp.assign rfl) ?_
    refine SL.nil_then ?_
    refine WC.ret ?_
    refine QX.retv rfl (RVs.cons (RV.cell rfl Try.underlying88 rfl (RowIs.cells 1 0 5 rfl rfl) sz88) (RVs.cons (RV.tmp rfl) RVs.nil)) ?_
    intro w hw
    rw [findE_end (by omega)] at hs
    rw [← hs]; rfl

set_option maxHeartbeats 4000000 in
set_option maxRecDepth 100000 in
theorem offset_ok (o : Int) (zl : List Sh) (zao : Option Addr) (zn zcap : Nat) (hzn : zn = zl.length) (u : Int) (w0 : World) (sZ : SliceIn w0 2 zao zn zcap (rowsF enc133 zl)) : FnC Try.prog 69 [.agg #[.int .i64 o, .slice zao zn zcap], .int .i64 u] w0 fun v w' => v = .int .i64 (offE u o zl) := by
  have hzm : (zn : Int) ≤ 9223372036854775807 := by
    have q1 := sZ.le; have q2 := sZ.max; simp only [maxLen] at q2; omega
  refine fnc (N := 25) Try.func69 rfl rfl rfl ?_
  refine WC.seq ?_
  refine WC.region ?_
  refine SL.box rfl rfl rfl (fun b1 hb1 => ?_)
  refine SL.norm [_] rfl ?_
  refine SL.pure rfl rfl rfl (PureOp.assign rfl) ?_
  refine SL.nil_then ?_
  refine WC.seq ?_
  refine WC.region ?_
  refine SL.pure rfl rfl rfl (PureOp.fieldAddrT 0 Try.underlying86 rfl sz3 rfl rfl) ?_
  refine SL.pure rfl rfl rfl (PureOp.load (v := .int .i64 o) Try.underlying3 rfl rfl (fun _ => (CellIs.cells 0 rfl rfl))) ?_
  refine SL.pure rfl rfl rfl (PureOp.assign rfl) ?_
  refine SL.nil_then ?_
  refine WC.seq ?_
  refine WC.seq ?_
  refine WC.region ?_
  refine SL.pure rfl rfl rfl (PureOp.fieldAddrT 1 Try.underlying86 rfl sz84 rfl rfl) ?_
  refine SL.pure rfl rfl rfl (PureOp.load (v := .slice zao zn zcap) Try.underlying84 rfl rfl (fun _ => (CellIs.cells 0 rfl rfl))) ?_
  refine SL.pure rfl rfl rfl (PureOp.len rfl Try.underlying84) ?_
  refine SL.pure rfl rfl rfl (PureOp.move rfl) ?_
  refine SL.nil_then ?_
  refine WC.block ?_
  refine WC.loop (σ := Nat × Int) (fun q_ => [(0, 0, .agg #[.int .i64 o, .slice zao zn zcap]), (1, 0, .int .i64 u), (2, 0, .pointer (some ⟨b1, 0, none⟩)), (4, 0, .int .i64 0), (8, 0, .pointer (some ⟨b1, 0, none⟩)), (9, 0, .int .i64 o), (10, 0, .pointer (some ⟨b1, 1, none⟩)), (11, 0, .slice zao zn zcap), (12, 0, .int .i64 ((zn : Nat) : Int)), (13, 0, .int .i64 ((q_.1 : Nat) : Int)), (5, 0, .int .i64 q_.2)]) (fun q_ => [Item.cells b1 [.int .i64 o, .slice zao zn zcap] 86]) (fun q_ => q_.1 ≤ zn ∧ offE u q_.2 (zl.drop q_.1) = offE u o zl) (fun q_ => zn - q_.1) 1 ((0, o)) (⟨Nat.zero_le _, rfl⟩) ⟨rfl, rfl, rfl, rfl, rfl, rfl, rfl, rfl, rfl, rfl, rfl, rfl, rfl, rfl, rfl, rfl, rfl, rfl, rfl, rfl, rfl, rfl, trivial⟩ rfl ?_
  rintro ⟨k, a⟩ ⟨hk, hs⟩
  try dsimp only at *
  refine WC.seq ?_
  refine WC.region ?_
  refine SL.pure rfl rfl rfl (PureOp.lss rfl rfl) ?_
  refine SL.nil_then ?_
  refine WC.seq ?_
  refine WC.cond rfl (fun h1 => ?_) (fun h1 => ?_)
  · try simp only [Bool.and_eq_true, Bool.or_eq_true, Bool.not_eq_true', Bool.not_eq_false', Bool.and_eq_false_iff, Bool.or_eq_false_iff, decide_eq_true_eq, decide_eq_false_iff_not, Int.not_lt, Int.not_le, ne_eq, Decidable.not_not] at h1
    refine WC.skip ?_
    refine QX.then_ ?_
    refine WC.seq ?_
    refine WC.block ?_
    refine WC.seq ?_
    refine WC.region ?_
    refine SL.pure rfl rfl rfl (PureOp.indexAddrN Try.underlying84 sz133 rfl rfl (AoOk.in_ sZ) (fun _ => by omega)) ?_
    refine SL.pure rfl rfl rfl (PureOp.loads (vs := [.int .i64 ((nth zl k).1), .int .i64 ((nth zl k).2)]) Try.underlying133 rfl rfl (fun _ => (RowIs.in_ sZ k 0 2 (by omega) (by omega))) sz133) ?_
    refine SL.alloc rfl rfl zero133 (fun b2 hb2 => ?_)
    refine SL.norm [_, _] rfl ?_
    refine SL.store 1 rfl rfl rfl rfl sz133 rfl rfl ?_
    refine SL.norm [_, _] rfl ?_
    refine SL.nil_then ?_
    refine WC.seq ?_
    refine WC.seq ?_
    refine WC.region ?_
    refine SL.pure rfl rfl rfl (PureOp.fieldAddrT 0 Try.underlying133 rfl sz3 rfl rfl) ?_
    refine SL.pure rfl rfl rfl (PureOp.load (v := .int .i64 ((nth zl k).1)) Try.underlying3 rfl rfl (fun _ => (CellIs.cells 1 rfl rfl))) ?_
    refine SL.pure rfl rfl rfl (PureOp.move rfl) ?_
    refine SL.pure rfl rfl rfl (PureOp.gtr rfl rfl) ?_
    refine SL.nil_then ?_
    refine WC.cond rfl (fun h2 => ?_) (fun h2 => ?_)
    · try simp only [Bool.and_eq_true, Bool.or_eq_true, Bool.not_eq_true', Bool.not_eq_false', Bool.and_eq_false_iff, Bool.or_eq_false_iff, decide_eq_true_eq, decide_eq_false_iff_not, Int.not_lt, Int.not_le, ne_eq, Decidable.not_not] at h2
      refine WC.exit ?_
      refine QX.exit_then ?_
      refine QX.exit_miss rfl ?_
      refine QX.exit_then ?_
      refine QX.exit_then ?_
      refine QX.exit_hit ?_
      refine QX.then_ ?_
      refine WC.seq ?_
      refine WC.region ?_
      refine SL.pure rfl rfl rfl (PureOp.move rfl) ?_
      refine SL.pure rfl rfl rfl (PureOp.assign rfl) ?_
      refine SL.nil_then ?_
      refine WC.ret ?_
      refine QX.ret1 rfl rfl ?_
      intro w hw
      rw [offE_drop (by omega), if_pos (by omega)] at hs
      rw [← hs]
    · try simp only [Bool.and_eq_true, Bool.or_eq_true, Bool.not_eq_true', Bool.not_eq_false', Bool.and_eq_false_iff, Bool.or_eq_false_iff, decide_eq_true_eq, decide_eq_false_iff_not, Int.not_lt, Int.not_le, ne_eq, Decidable.not_not] at h2
      refine WC.skip ?_
      refine QX.then_ ?_
      refine WC.region ?_
      refine SL.pure rfl rfl rfl (PureOp.fieldAddrT 1 Try.underlying133 rfl sz3 rfl rfl) ?_
      refine SL.pure rfl rfl rfl (PureOp.load (v := .int .i64 ((nth zl k).2)) Try.underlying3 rfl rfl (fun _ => (CellIs.cells 1 rfl rfl))) ?_
      refine SL.pure rfl rfl rfl (PureOp.assign rfl) ?_
      refine SL.nil ?_
      refine QX.normal_in ?_
      refine QX.then_ ?_
      refine WC.region ?_
      refine SL.pure rfl rfl rfl (PureOp.addN (k := 1) rfl rfl (fun _ => by omega)) ?_
      refine SL.pure rfl rfl rfl (PureOp.move rfl) ?_
      refine SL.nil ?_
      refine QX.round (σ := Nat × Int) (Ef := fun q_ => [(0, 0, .agg #[.int .i64 o, .slice zao zn zcap]), (1, 0, .int .i64 u), (2, 0, .pointer (some ⟨b1, 0, none⟩)), (4, 0, .int .i64 0), (8, 0, .pointer (some ⟨b1, 0, none⟩)), (9, 0, .int .i64 o), (10, 0, .pointer (some ⟨b1, 1, none⟩)), (11, 0, .slice zao zn zcap), (12, 0, .int .i64 ((zn : Nat) : Int)), (13, 0, .int .i64 ((q_.1 : Nat) : Int)), (5, 0, .int .i64 q_.2)]) (Hf := fun q_ => [Item.cells b1 [.int .i64 o, .slice zao zn zcap] 86]) (I := fun q_ => q_.1 ≤ zn ∧ offE u q_.2 (zl.drop q_.1) = offE u o zl) (μ := fun q_ => zn - q_.1) (s := (k, a)) 1 ((k + 1, (nth zl k).2)) ⟨⟨(by first | omega | (dsimp only; omega)), by rw [offE_drop (by omega), if_neg (by omega)] at hs; exact hs⟩, by first | omega | (dsimp only; omega)⟩ ⟨rfl, rfl, rfl, rfl, rfl, rfl, rfl, rfl, rfl, rfl, rfl, rfl, rfl, rfl, rfl, rfl, rfl, rfl, rfl, rfl, rfl, rfl, trivial⟩ rfl
  · try simp only [Bool.and_eq_true, Bool.or_eq_true, Bool.not_eq_true', Bool.not_eq_false', Bool.and_eq_false_iff, Bool.or_eq_false_iff, decide_eq_true_eq, decide_eq_false_iff_not, Int.not_lt, Int.not_le, ne_eq, Decidable.not_not] at h1
    refine WC.exit ?_
    refine QX.exit_then ?_
    refine QX.exit_then ?_
    refine QX.exit_hit ?_
    refine QX.then_ ?_
    refine WC.seq ?_
    refine WC.region ?_
    refine SL.pure rfl rfl rfl (PureOp.move rfl) ?_
    refine SL.pure rfl rfl rfl (PureOp.assign rfl) ?_
    refine SL.nil_then ?_
    refine WC.ret ?_
    refine QX.ret1 rfl rfl ?_
    intro w hw
    rw [offE_end (by omega)] at hs
    rw [← hs]

set_option maxHeartbeats 4000000 in
set_option maxRecDepth 100000 in
theorem local_ok (o : Int) (zl : List Sh) (zao : Option Addr) (zn zcap : Nat) (hzn : zn = zl.length) (u : Int) (w0 : World) (sZ : SliceIn w0 2 zao zn zcap (rowsF enc133 zl)) (hu : -2199023255552 ≤ u ∧ u ≤ 2199023255552) (hob : (-1000000 ≤ offE u o zl ∧ offE u o zl ≤ 1000000)) : FnC Try.prog 50 [.agg #[.int .i64 o, .slice zao zn zcap], .int .i64 u] w0 fun v w' => v = .int .i64 (u + offE u o zl) := by
  refine fnc (N := 10) Try.func50 rfl rfl rfl ?_
  refine WC.seq ?_
  refine WC.region ?_
  refine SL.box rfl rfl rfl (fun b1 hb1 => ?_)
  refine SL.norm [_] rfl ?_
  refine SL.pure rfl rfl rfl (PureOp.assign rfl) ?_
  refine SL.nil_then ?_
  refine WC.seq ?_
  refine WC.region ?_
  refine SL.pure rfl rfl rfl (PureOp.move rfl) ?_
  refine SL.pure rfl rfl rfl (PureOp.loads (vs := [.int .i64 o, .slice zao zn zcap]) Try.underlying86 rfl rfl (fun _ => (RowIs.cells 0 0 2 rfl rfl)) sz86) ?_
  refine SL.pure rfl rfl rfl (PureOp.move rfl) ?_
  refine SL.calle rfl rfl rfl rfl rfl rfl callable69 (fun w hw => offset_ok o zl zao zn zcap hzn u w (sZ.below hw.below)) ?_
  refine SL.norm [_] rfl ?_
  refine SL.pure rfl rfl rfl (PureOp.add rfl rfl (fun _ => by omega)) ?_
  refine SL.pure rfl rfl rfl (PureOp.assign rfl) ?_
  refine SL.nil_then ?_
  refine WC.ret ?_
  refine QX.ret1 rfl rfl ?_
  intro w hw
  rfl

theorem tmod_bd (u : Int) : -1440 < u.tmod 1440 ∧ u.tmod 1440 < 1440 := by
  have h1 := Int.tmod_lt_of_pos u (show (0 : Int) < 1440 by decide)
  have h2 := Int.tmod_lt_of_pos (-u) (show (0 : Int) < 1440 by decide)
  rw [Int.neg_tmod] at h2
  omega
theorem splitD_bd {u : Int} (h : -4398046511104 ≤ u ∧ u ≤ 4398046511104) : -4398046511104 ≤ splitD u ∧ splitD u ≤ 4398046511104 := by
  have q1 := Int.mul_tdiv_add_tmod u 1440
  have q2 := tmod_bd u
  unfold splitD
  split <;> omega
set_option maxHeartbeats 4000000 in
set_option maxRecDepth 100000 in
theorem split_ok (u : Int) (hu : -4398046511104 ≤ u ∧ u ≤ 4398046511104) (w0 : World) : FnC Try.prog 49 [.int .i64 u] w0 fun v w' => ∃ m, v = .tuple #[.int .i64 (splitD u), .int .i64 m] := by
  refine fnc (N := 18) Try.func49 rfl rfl rfl ?_
  refine WC.seq ?_
  refine WC.region ?_
  refine SL.pure rfl rfl rfl (PureOp.assign rfl) ?_
  refine SL.pure rfl rfl rfl (PureOp.assign rfl) ?_
  refine SL.nil_then ?_
  refine WC.seq ?_
  refine WC.region ?_
  refine SL.pure rfl rfl rfl (PureOp.move rfl) ?_
  refine SL.pure rfl rfl rfl (PureOp.quo rfl rfl (fun _ => by first | omega | (have q1 := Int.mul_tdiv_add_tmod u 1440; have q2 := tmod_bd u; omega))) ?_
  refine SL.pure rfl rfl rfl (PureOp.move rfl) ?_
  refine SL.pure rfl rfl rfl (PureOp.rem rfl rfl (fun _ => by first | omega | (have q1 := Int.mul_tdiv_add_tmod u 1440; have q2 := tmod_bd u; omega))) ?_
  refine SL.pure rfl rfl rfl (PureOp.assign rfl) ?_
  refine SL.pure rfl rfl rfl (PureOp.assign rfl) ?_
  refine SL.nil_then ?_
  refine WC.seq ?_
  refine WC.seq ?_
  refine WC.region ?_
  refine SL.pure rfl rfl rfl (PureOp.move rfl) ?_
  refine SL.pure rfl rfl rfl (PureOp.lss rfl rfl) ?_
  refine SL.nil_then ?_
  refine WC.cond rfl (fun h1 => ?_) (fun h1 => ?_)
  · try simp only [Bool.and_eq_true, Bool.or_eq_true, Bool.not_eq_true', Bool.not_eq_false', Bool.and_eq_false_iff, Bool.or_eq_false_iff, decide_eq_true_eq, decide_eq_false_iff_not, Int.not_lt, Int.not_le, ne_eq, Decidable.not_not] at h1
    refine WC.region ?_
    refine SL.pure rfl rfl rfl (PureOp.move rfl) ?_
    refine SL.pure rfl rfl rfl (PureOp.sub rfl rfl (fun _ => by first | omega | (have q1 := Int.mul_tdiv_add_tmod u 1440; have q2 := tmod_bd u; omega))) ?_
    refine SL.pure rfl rfl rfl (PureOp.move rfl) ?_
    refine SL.pure rfl rfl rfl (PureOp.add rfl rfl (fun _ => by first | omega | (have q1 := Int.mul_tdiv_add_tmod u 1440; have q2 := tmod_bd u; omega))) ?_
    refine SL.pure rfl rfl rfl (PureOp.assign rfl) ?_
    refine SL.pure rfl rfl rfl (PureOp.assign rfl) ?_
    refine SL.nil_then ?_
    refine WC.seq ?_
    refine WC.region ?_
    refine SL.pure rfl rfl rfl (PureOp.move rfl) ?_
    refine SL.pure rfl rfl rfl (PureOp.move rfl) ?_
    refine SL.pure rfl rfl rfl (PureOp.assign rfl) ?_
    refine SL.pure rfl rfl rfl (PureOp.assign rfl) ?_
    refine SL.nil_then ?_
    refine WC.ret ?_
    refine QX.ret2 rfl rfl rfl ?_
    intro w hw
    exact ⟨_, by rw [splitD, if_pos h1]⟩
  · try simp only [Bool.and_eq_true, Bool.or_eq_true, Bool.not_eq_true', Bool.not_eq_false', Bool.and_eq_false_iff, Bool.or_eq_false_iff, decide_eq_true_eq, decide_eq_false_iff_not, Int.not_lt, Int.not_le, ne_eq, Decidable.not_not] at h1
    refine WC.skip ?_
    refine QX.then_ ?_
    refine WC.seq ?_
    refine WC.region ?_
    refine SL.pure rfl rfl rfl (PureOp.move rfl) ?_
    refine SL.pure rfl rfl rfl (PureOp.move rfl) ?_
    refine SL.pure rfl rfl rfl (PureOp.assign rfl) ?_
    refine SL.pure rfl rfl rfl (PureOp.assign rfl) ?_
    refine SL.nil_then ?_
    refine WC.ret ?_
    refine QX.ret2 rfl rfl rfl ?_
    intro w hw
    exact ⟨_, by rw [splitD, if_neg (by omega)]⟩

end Go.Proofs.Ytblmafknmeicfaa
