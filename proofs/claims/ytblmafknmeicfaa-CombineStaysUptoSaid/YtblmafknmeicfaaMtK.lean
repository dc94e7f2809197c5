import Derived.Test.YtblmafknmeicfaaMtH
import Derived.Test.YtblmafknmeicfaaMtI
import Derived.Test.YtblmafknmeicfaaKnZ
namespace Go.Proofs.Ytblmafknmeicfaa
open Go Go.RowKit Eng
set_option linter.unusedVariables false
set_option linter.unusedSimpArgs false

theorem nth_rev {α : Type} [Inhabited α] {l : List α} {i : Nat} (h : i < l.length) : nth l.reverse i = nth l (l.length - 1 - i) := by
  have h1 : l.reverse[i]? = some (nth l.reverse i) := nth_get (by simpa using h)
  have h2 : l[l.length - 1 - i]? = some (nth l (l.length - 1 - i)) := nth_get (by omega)
  rw [List.getElem?_reverse h, h2] at h1
  exact (Option.some.inj h1).symm
theorem rev_next {l : List Pt} {L : List Pt} {i : Int} (hL : L = (l.drop ((i + 1).toNat)).reverse) (h0 : 0 ≤ i) (hk : i < l.length) : L ++ [nth l i.toNat] = (l.drop ((i - 1 + 1).toNat)).reverse := by
  rw [hL, drop_nthK (l := l) (i := (i - 1 + 1).toNat) (by omega), List.reverse_cons, show (i - 1 + 1).toNat = i.toNat from by omega, show i.toNat + 1 = (i + 1).toNat from by omega]
theorem mixX_sym (fl : List Fa) (rl : List Ru) (pl : List Pt) (i j : Nat) : mixX fl rl pl i j = mixX fl rl pl j i := by rw [mixX, mixX, mixB, mixB, Bool.and_comm]
theorem bool_iff {a b : Bool} (h : a = true ↔ b = true) : a = b := by cases a <;> cases b <;> simp_all
theorem prF_rev {fn : Nat} (pl : List Pt) : allK (prF fn pl.reverse) pl.reverse.length = allK (prF fn pl) pl.length := by
  refine bool_iff ?_
  rw [allK_iff, allK_iff, List.length_reverse]
  have e : ∀ i, i < pl.length → prF fn pl.reverse i = prF fn pl (pl.length - 1 - i) := fun i hi => by rw [prF, prF, nth_rev hi]
  constructor
  · intro h i hi
    have := h (pl.length - 1 - i) (by omega)
    rw [e _ (by omega), show pl.length - 1 - (pl.length - 1 - i) = i from by omega] at this
    exact this
  · intro h i hi
    rw [e i hi]; exact h _ (by omega)
theorem mixed_rev {fn : Nat} {fl : List Fa} {rl : List Ru} {pl : List Pt} {n : Nat} (hn : n = pl.length) : mixedE (allK (prF fn pl.reverse) pl.reverse.length) n (mixX fl rl pl.reverse) = mixedE (allK (prF fn pl) pl.length) n (mixX fl rl pl) := by
  rw [prF_rev]
  have e : ∀ i j, i < n → j < n → mixX fl rl pl.reverse i j = mixX fl rl pl (n - 1 - i) (n - 1 - j) := fun i j hi hj => by rw [mixX, mixX, nth_rev (by omega), nth_rev (by omega), hn]
  have : allK (fun i => allK (fun j => mixX fl rl pl.reverse i j) i) n = allK (fun i => allK (fun j => mixX fl rl pl i j) i) n := by
    refine bool_iff ?_
    rw [allK_iff, allK_iff]
    constructor
    · intro h i hi
      refine (allK_iff _).2 fun j hj => ?_
      have h2 := (allK_iff _).1 (h (n - 1 - j) (by omega)) (n - 1 - i) (by omega)
      rw [e _ _ (by omega) (by omega), show n - 1 - (n - 1 - j) = j from by omega, show n - 1 - (n - 1 - i) = i from by omega, mixX_sym] at h2
      exact h2
    · intro h i hi
      refine (allK_iff _).2 fun j hj => ?_
      rw [e _ _ (by omega) (by omega), mixX_sym]
      exact (allK_iff _).1 (h (n - 1 - j) (by omega)) (n - 1 - i) (by omega)
  unfold mixedE
  rw [this]
set_option maxHeartbeats 4000000 in
set_option maxRecDepth 100000 in
theorem mixed_law (u3 : SliceV Unit) (al : List Ai) (aao : Option Addr) (an acap : Nat) (han : an = al.length) (dl : List (ByteArray × ByteArray × Int)) (hdl : dl.length = u3.l.length) (u1 u2 : SliceV Unit) (fl : List Fa) (rl : List Ru) (rao : Option Addr) (rn rcap : Nat) (fao : Option Addr) (fn fcap : Nat) (hfn : fn = fl.length) (hrn : rn = rl.length) (tl : List (Int × SliceV Lk × Int)) (htl : tl.length = u1.l.length) (w0 : World) (sA : SliceIn w0 5 aao an acap (rowsF enc88 al)) (sD : SliceIn w0 3 u3.ao u3.l.length u3.cap (rowsF enc117 dl)) (hf : SliceIn w0 9 fao fn fcap (rowsF enc52 fl)) (hr : SliceIn w0 15 rao rn rcap (rowsF enc76 rl)) (sR : SliceIn w0 3 u1.ao u1.l.length u1.cap (rowsF enc99 tl)) (hAi : ∀ j, j < an → AiG w0 (nth al j)) (hRu : ∀ i, i < rn → RuG w0 (nth rl i)) (hRt : ∀ i, i < u1.l.length → RtG w0 (nth tl i)) (hFa : ∀ i, i < fn → FaG (nth fl i)) (pl : List Pt) (pao : Option Addr) (pn pcap : Nat) (hpn : pn = pl.length) (hp : SliceIn w0 4 pao pn pcap (rowsF enc42 pl)) : FnC Try.prog 4 [.agg #[.slice aao an acap, .slice u3.ao u3.l.length u3.cap], .agg #[.slice fao fn fcap, .slice rao rn rcap, .slice u1.ao u1.l.length u1.cap, .slice u2.ao u2.l.length u2.cap], .slice pao pn pcap] w0 fun v w' => v = .bool true := by
  have hpm : (pn : Int) ≤ 9223372036854775807 := by
    have q1 := hp.le; have q2 := hp.max; simp only [maxLen] at q2; omega
  refine fnc (N := 52) Try.func4 rfl rfl rfl ?_
  refine WC.seq ?_
  refine WC.region ?_
  refine SL.box rfl rfl rfl (fun b1 hb1 => ?_)
  refine SL.norm [_] rfl ?_
  refine SL.box rfl rfl rfl (fun b2 hb2 => ?_)
  refine SL.norm [_, _] rfl ?_
  refine SL.pure rfl rfl rfl (PureOp.assign rfl) ?_
  refine SL.nil_then ?_
  refine WC.seq ?_
  refine WC.seq ?_
  refine WC.region ?_
  refine SL.pure rfl rfl rfl (PureOp.move rfl) ?_
  refine SL.pure rfl rfl rfl (PureOp.len rfl Try.underlying28) ?_
  refine SL.pure rfl rfl rfl (PureOp.gtr rfl rfl) ?_
  refine SL.pure rfl rfl rfl (PureOp.move rfl) ?_
  refine SL.split 13 rfl (fun hs13 => ?_) (fun hs13 => ?_)
  · try simp only [Bool.and_eq_true, Bool.or_eq_true, Bool.not_eq_true', Bool.not_eq_false', Bool.and_eq_false_iff, Bool.or_eq_false_iff, decide_eq_true_eq, decide_eq_false_iff_not, Int.not_lt, Int.not_le, ne_eq, Decidable.not_not] at hs13
    refine SL.off rfl rfl rfl rfl rfl rfl ?_
    refine SL.off rfl rfl rfl rfl rfl rfl ?_
    refine SL.off rfl rfl rfl rfl rfl rfl ?_
    refine SL.off rfl rfl rfl rfl rfl rfl ?_
    refine SL.pure rfl rfl rfl (PureOp.pickT rfl rfl) ?_
    refine SL.nil_then ?_
    refine WC.condT rfl ?_
    refine WC.seq ?_
    refine WC.region ?_
    refine SL.calle rfl rfl rfl rfl rfl rfl callable7 (fun w hw => knows_ok w) ?_
    refine SL.norm [_, _] rfl ?_
    refine SL.pure rfl rfl rfl (PureOp.assign rfl) ?_
    refine SL.nil_then ?_
    refine WC.ret ?_
    refine QX.ret_then ?_
    refine QX.ret1 rfl rfl ?_
    intro w hw
    rfl
  · try simp only [Bool.and_eq_true, Bool.or_eq_true, Bool.not_eq_true', Bool.not_eq_false', Bool.and_eq_false_iff, Bool.or_eq_false_iff, decide_eq_true_eq, decide_eq_false_iff_not, Int.not_lt, Int.not_le, ne_eq, Decidable.not_not] at hs13
    refine SL.ung rfl rfl rfl rfl ?_
    refine SL.pure rfl rfl rfl (PureOp.loads (vs := [.slice aao an acap, .slice u3.ao u3.l.length u3.cap]) Try.underlying39 rfl rfl (fun _ => (RowIs.cells 0 0 2 rfl rfl)) sz39) ?_
    refine SL.ung rfl rfl rfl rfl ?_
    refine SL.pure rfl rfl rfl (PureOp.loads (vs := [.slice fao fn fcap, .slice rao rn rcap, .slice u1.ao u1.l.length u1.cap, .slice u2.ao u2.l.length u2.cap]) Try.underlying27 rfl rfl (fun _ => (RowIs.cells 1 0 4 rfl rfl)) sz27) ?_
    refine SL.ung rfl rfl rfl rfl ?_
    refine SL.callv rfl rfl rfl rfl rfl rfl callable11 (fun w hw => few_any u3 al aao an acap han dl hdl u1 u2 fl rl rao rn rcap fao fn fcap hfn hrn tl htl [] none 0 0 rfl w (sA.below hw.below) (sD.below hw.below) (hf.below hw.below) (hr.below hw.below) (sR.below hw.below) ⟨Nat.le_refl _, by simp [maxLen], .inl rfl, fun i hi => absurd hi (Nat.not_lt_zero i)⟩ (fun j hj => (hAi j hj).below hw.below) (fun i hi => (hRu i hi).below hw.below) (fun i hi => (hRt i hi).below hw.below) hFa) ?_
    rintro v ⟨bf, rfl, hbf⟩
    refine SL.norm [_, _] rfl ?_
    refine SL.ung rfl rfl rfl rfl ?_
    refine SL.pure rfl rfl rfl (PureOp.not rfl) ?_
    refine SL.pure rfl rfl rfl (PureOp.pickF rfl rfl) ?_
    refine SL.nil_then ?_
    refine WC.cond rfl (fun h1 => ?_) (fun h1 => ?_)
    · try simp only [Bool.and_eq_true, Bool.or_eq_true, Bool.not_eq_true', Bool.not_eq_false', Bool.and_eq_false_iff, Bool.or_eq_false_iff, decide_eq_true_eq, decide_eq_false_iff_not, Int.not_lt, Int.not_le, ne_eq, Decidable.not_not] at h1
      refine WC.seq ?_
      refine WC.region ?_
      refine SL.calle rfl rfl rfl rfl rfl rfl callable7 (fun w hw => knows_ok w) ?_
      refine SL.norm [_, _] rfl ?_
      refine SL.pure rfl rfl rfl (PureOp.assign rfl) ?_
      refine SL.nil_then ?_
      refine WC.ret ?_
      refine QX.ret_then ?_
      refine QX.ret1 rfl rfl ?_
      intro w hw
      rfl
    · try simp only [Bool.and_eq_true, Bool.or_eq_true, Bool.not_eq_true', Bool.not_eq_false', Bool.and_eq_false_iff, Bool.or_eq_false_iff, decide_eq_true_eq, decide_eq_false_iff_not, Int.not_lt, Int.not_le, ne_eq, Decidable.not_not] at h1
      have hfw := hbf (by simpa using h1)
      obtain ⟨⟨hf1, hf2, hf3, hf4⟩, hf5, hf6⟩ := hfw
      have hfb : fn ≤ 1000 := by omega
      have hrb : rn ≤ 1000 := by omega
      have hab : an ≤ 1000 := by omega
      have hpb : pn ≤ 1000 := by omega
      have hcm : ∀ r ∈ rl, SliceIn w0 1 r.2.2.1.ao r.2.2.1.l.length r.2.2.1.cap (rowsF encI r.2.2.1.l) := fun r hr_ => by
        obtain ⟨i, hi, rfl⟩ := mem_nth hr_
        exact (hRu i (by omega)).i
      refine WC.skip ?_
      refine QX.then_ ?_
      refine WC.seq ?_
      refine WC.region ?_
      refine SL.addnil 42 4 ?_
      refine SL.pure rfl rfl rfl (PureOp.assign rfl) ?_
      refine SL.nil_then ?_
      refine WC.seq ?_
      refine WC.seq ?_
      refine WC.region ?_
      refine SL.pure rfl rfl rfl (PureOp.move rfl) ?_
      refine SL.pure rfl rfl rfl (PureOp.len rfl Try.underlying28) ?_
      refine SL.pure rfl rfl rfl (PureOp.sub rfl rfl (fun _ => by omega)) ?_
      refine SL.pure rfl rfl rfl (PureOp.assign rfl) ?_
      refine SL.nil_then ?_
      refine WC.block ?_
      refine WC.loop (σ := Int × Option Addr × Nat × Nat × List Pt) (fun q_ => [(0, 0, .agg #[.slice aao an acap, .slice u3.ao u3.l.length u3.cap]), (1, 0, .agg #[.slice fao fn fcap, .slice rao rn rcap, .slice u1.ao u1.l.length u1.cap, .slice u2.ao u2.l.length u2.cap]), (2, 0, .slice pao pn pcap), (3, 0, .pointer (some ⟨b1, 0, none⟩)), (4, 0, .pointer (some ⟨b2, 0, none⟩)), (6, 0, .bool false), (10, 0, .slice pao pn pcap), (11, 0, .int .i64 ((pn : Nat) : Int)), (12, 0, .bool (decide (20 < ((pn : Nat) : Int)))), (13, 0, .bool false), (14, 0, .agg #[.slice aao an acap, .slice u3.ao u3.l.length u3.cap]), (15, 0, .agg #[.slice fao fn fcap, .slice rao rn rcap, .slice u1.ao u1.l.length u1.cap, .slice u2.ao u2.l.length u2.cap]), (16, 0, .bool bf), (17, 0, .bool (!bf)), (18, 0, .bool (!bf)), (20, 0, .slice pao pn pcap), (21, 0, .int .i64 ((pn : Nat) : Int)), (22, 0, .int .i64 (((pn : Nat) : Int) - 1)), (8, 0, .int .i64 q_.1), (7, 0, .slice q_.2.1 q_.2.2.2.1 q_.2.2.1)]) (fun q_ => [Item.cells b1 [.slice aao an acap, .slice u3.ao u3.l.length u3.cap] 39, Item.cells b2 [.slice fao fn fcap, .slice rao rn rcap, .slice u1.ao u1.l.length u1.cap, .slice u2.ao u2.l.length u2.cap] 27, Item.own w0.heap.size q_.2.1 q_.2.2.2.1 q_.2.2.1 42 4 (cellsOf enc42 (q_.2.2.2.2))]) (fun q_ => (-1 ≤ q_.1 ∧ q_.1 < pn) ∧ q_.2.2.2.1 + (q_.1 + 1).toNat = pn ∧ q_.2.2.2.2 = (pl.drop ((q_.1 + 1).toNat)).reverse) (fun q_ => (q_.1 + 1).toNat) 3 ((((pn : Int) - 1), none, 0, 0, [])) (⟨(by dsimp only; omega), (by dsimp only; omega), by dsimp only; rw [List.drop_eq_nil_of_le (by omega)]; rfl⟩) ⟨rfl, rfl, rfl, rfl, rfl, rfl, rfl, rfl, rfl, rfl, rfl, rfl, rfl, rfl, rfl, rfl, rfl, rfl, rfl, rfl, rfl, rfl, rfl, rfl, rfl, rfl, rfl, rfl, rfl, rfl, rfl, rfl, rfl, rfl, rfl, rfl, rfl, rfl, rfl, rfl, trivial⟩ rfl ?_
      rintro ⟨i, a, c, n_, L⟩ ⟨hi, hkn, hL⟩
      try dsimp only at *
      refine WC.seq ?_
      refine WC.seq ?_
      refine WC.region ?_
      refine SL.pure rfl rfl rfl (PureOp.move rfl) ?_
      refine SL.pure rfl rfl rfl (PureOp.geq rfl rfl) ?_
      refine SL.nil_then ?_
      refine WC.cond rfl (fun h2 => ?_) (fun h2 => ?_)
      · try simp only [Bool.and_eq_true, Bool.or_eq_true, Bool.not_eq_true', Bool.not_eq_false', Bool.and_eq_false_iff, Bool.or_eq_false_iff, decide_eq_true_eq, decide_eq_false_iff_not, Int.not_lt, Int.not_le, ne_eq, Decidable.not_not] at h2
        refine WC.skip ?_
        refine QX.then_ ?_
        refine WC.seq ?_
        refine WC.block ?_
        refine WC.region ?_
        refine SL.pure rfl rfl rfl (PureOp.move rfl) ?_
        refine SL.pure rfl rfl rfl (PureOp.move rfl) ?_
        refine SL.pure rfl rfl rfl (PureOp.move rfl) ?_
        refine SL.pure rfl rfl rfl (PureOp.indexAddr Try.underlying28 sz42 rfl rfl (AoOk.in_ hp) (fun _ => by omega)) ?_
        refine SL.pure rfl rfl rfl (PureOp.loads (vs := [.int .i64 ((nth pl ((i).toNat)).1), .int .i64 ((nth pl ((i).toNat)).2.1), .int .i64 ((nth pl ((i).toNat)).2.2.1), .int .i64 ((nth pl ((i).toNat)).2.2.2)]) Try.underlying42 rfl rfl (fun _ => (RowIs.in_ hp ((i).toNat) 0 4 (by omega) (by omega))) sz42) ?_
        refine SL.buildSlice rfl rfl Try.underlying28 elem42 rfl rfl rfl rfl (fun b3 hb3 => ?_)
        refine SL.norm [_, _, _, _] rfl ?_
        refine SL.append 2 rfl rfl Try.underlying28 elem42 rfl rfl rfl rfl (SrcIs.own 3 rfl) (by rfl) (by omega) (by omega) (fun ao1_ cap1_ => ?_)
        refine SL.itemxs 2 rfl (show _ = cellsOf enc42 (L ++ [nth pl ((i).toNat)]) from by rw [cellsOf_append (l := L), cellsOf_one]; rfl) ?_
        refine SL.norm [_, _, _, _] rfl ?_
        refine SL.pure rfl rfl rfl (PureOp.assign rfl) ?_
        refine SL.nil ?_
        refine QX.normal_in ?_
        refine QX.then_ ?_
        refine WC.region ?_
        refine SL.pure rfl rfl rfl (PureOp.move rfl) ?_
        refine SL.pure rfl rfl rfl (PureOp.sub rfl rfl (fun _ => by omega)) ?_
        refine SL.pure rfl rfl rfl (PureOp.assign rfl) ?_
        refine SL.nil ?_
        refine QX.round (σ := Int × Option Addr × Nat × Nat × List Pt) (Ef := fun q_ => [(0, 0, .agg #[.slice aao an acap, .slice u3.ao u3.l.length u3.cap]), (1, 0, .agg #[.slice fao fn fcap, .slice rao rn rcap, .slice u1.ao u1.l.length u1.cap, .slice u2.ao u2.l.length u2.cap]), (2, 0, .slice pao pn pcap), (3, 0, .pointer (some ⟨b1, 0, none⟩)), (4, 0, .pointer (some ⟨b2, 0, none⟩)), (6, 0, .bool false), (10, 0, .slice pao pn pcap), (11, 0, .int .i64 ((pn : Nat) : Int)), (12, 0, .bool (decide (20 < ((pn : Nat) : Int)))), (13, 0, .bool false), (14, 0, .agg #[.slice aao an acap, .slice u3.ao u3.l.length u3.cap]), (15, 0, .agg #[.slice fao fn fcap, .slice rao rn rcap, .slice u1.ao u1.l.length u1.cap, .slice u2.ao u2.l.length u2.cap]), (16, 0, .bool bf), (17, 0, .bool (!bf)), (18, 0, .bool (!bf)), (20, 0, .slice pao pn pcap), (21, 0, .int .i64 ((pn : Nat) : Int)), (22, 0, .int .i64 (((pn : Nat) : Int) - 1)), (8, 0, .int .i64 q_.1), (7, 0, .slice q_.2.1 q_.2.2.2.1 q_.2.2.1)]) (Hf := fun q_ => [Item.cells b1 [.slice aao an acap, .slice u3.ao u3.l.length u3.cap] 39, Item.cells b2 [.slice fao fn fcap, .slice rao rn rcap, .slice u1.ao u1.l.length u1.cap, .slice u2.ao u2.l.length u2.cap] 27, Item.own w0.heap.size q_.2.1 q_.2.2.2.1 q_.2.2.1 42 4 (cellsOf enc42 (q_.2.2.2.2))]) (I := fun q_ => (-1 ≤ q_.1 ∧ q_.1 < pn) ∧ q_.2.2.2.1 + (q_.1 + 1).toNat = pn ∧ q_.2.2.2.2 = (pl.drop ((q_.1 + 1).toNat)).reverse) (μ := fun q_ => (q_.1 + 1).toNat) (s := (i, a, c, n_, L)) 3 ((i - 1, ao1_, cap1_, n_ + 1, L ++ [nth pl ((i).toNat)])) ⟨⟨(by first | omega | (dsimp only; omega)), (by first | omega | (dsimp only; omega)), rev_next hL (by omega) (by omega)⟩, by first | omega | (dsimp only; omega)⟩ ⟨rfl, rfl, rfl, rfl, rfl, rfl, rfl, rfl, rfl, rfl, rfl, rfl, rfl, rfl, rfl, rfl, rfl, rfl, rfl, rfl, rfl, rfl, rfl, rfl, rfl, rfl, rfl, rfl, rfl, rfl, rfl, rfl, rfl, rfl, rfl, rfl, rfl, rfl, rfl, rfl, trivial⟩ rfl
      · try simp only [Bool.and_eq_true, Bool.or_eq_true, Bool.not_eq_true', Bool.not_eq_false', Bool.and_eq_false_iff, Bool.or_eq_false_iff, decide_eq_true_eq, decide_eq_false_iff_not, Int.not_lt, Int.not_le, ne_eq, Decidable.not_not] at h2
        have hi1 : i = -1 := by omega
        have hnp : n_ = pn := by omega
        have hL2 : L = pl.reverse := by rw [hL, hi1]; rfl
        have hLn : n_ = L.length := by rw [hL2, List.length_reverse]; omega
        have hmx : decide (mixedE (allK (prF fn pl) pl.length) pn (mixX fl rl pl) = mixedE (allK (prF fn L) L.length) n_ (mixX fl rl L)) = true := by rw [hL2, hnp, mixed_rev (by omega)]; simp
        refine WC.exit ?_
        refine QX.exit_then ?_
        refine QX.exit_then ?_
        refine QX.exit_hit ?_
        refine QX.then_ ?_
        refine WC.seq ?_
        refine WC.region ?_
        refine SL.pure rfl rfl rfl (PureOp.loads (vs := [.slice fao fn fcap, .slice rao rn rcap, .slice u1.ao u1.l.length u1.cap, .slice u2.ao u2.l.length u2.cap]) Try.underlying27 rfl rfl (fun _ => (RowIs.cells 1 0 4 rfl rfl)) sz27) ?_
        refine SL.pure rfl rfl rfl (PureOp.move rfl) ?_
        refine SL.calle rfl rfl rfl rfl rfl rfl callable12 (fun w hw => mixedw_ok u1 u2 fl rl rao rn rcap fao fn fcap hfn hrn w (hf.below hw.below) (hr.below hw.below) hfb hrb (fun r hr => (hcm r hr).below hw.below) pl pao pn pcap hpn (hp.below hw.below) hpb) ?_
        refine SL.norm [_, _, _] rfl ?_
        refine SL.pure rfl rfl rfl (PureOp.assign rfl) ?_
        refine SL.nil_then ?_
        refine WC.seq ?_
        refine WC.region ?_
        refine SL.pure rfl rfl rfl (PureOp.move rfl) ?_
        refine SL.pure rfl rfl rfl (PureOp.loads (vs := [.slice fao fn fcap, .slice rao rn rcap, .slice u1.ao u1.l.length u1.cap, .slice u2.ao u2.l.length u2.cap]) Try.underlying27 rfl rfl (fun _ => (RowIs.cells 1 0 4 rfl rfl)) sz27) ?_
        refine SL.pure rfl rfl rfl (PureOp.move rfl) ?_
        refine SL.calle rfl rfl rfl rfl rfl rfl callable13 (fun w hw => rmixed_ok u1 u2 fl rl rao rn rcap fao fn fcap hfn hrn w (hf.below hw.below) (hr.below hw.below) hfb hrb (fun r hr => (hcm r hr).below hw.below) pl pao pn pcap hpn (hp.below hw.below) hpb) ?_
        refine SL.norm [_, _, _] rfl ?_
        refine SL.pure rfl rfl rfl (PureOp.eql rfl rfl) ?_
        refine SL.lit 41 true rfl (by simp) ?_
        refine SL.pure rfl rfl rfl (PureOp.move rfl) ?_
        refine SL.ung rfl rfl rfl rfl ?_
        refine SL.pure rfl rfl rfl (PureOp.move rfl) ?_
        refine SL.ung rfl rfl rfl rfl ?_
        refine SL.pure rfl rfl rfl (PureOp.loads (vs := [.slice fao fn fcap, .slice rao rn rcap, .slice u1.ao u1.l.length u1.cap, .slice u2.ao u2.l.length u2.cap]) Try.underlying27 rfl rfl (fun _ => (RowIs.cells 1 0 4 rfl rfl)) sz27) ?_
        refine SL.ung rfl rfl rfl rfl ?_
        refine SL.pure rfl rfl rfl (PureOp.move rfl) ?_
        refine SL.ung rfl rfl rfl rfl ?_
        refine SL.calle rfl rfl rfl rfl rfl rfl callable12 (fun w hw => mixedw_ok u1 u2 fl rl rao rn rcap fao fn fcap hfn hrn w (hf.below hw.below) (hr.below hw.below) hfb hrb (fun r hr => (hcm r hr).below hw.below) L a n_ c hLn (SliceIn.rows (hw.mem (i := 2) rfl) enc42_len (by omega)) (by omega)) ?_
        refine SL.norm [_, _, _] rfl ?_
        refine SL.ung rfl rfl rfl rfl ?_
        refine SL.pure rfl rfl rfl (PureOp.eql rfl rfl) ?_
        refine SL.lit 47 true rfl (hmx) ?_
        refine SL.pure rfl rfl rfl (PureOp.pickT rfl rfl) ?_
        refine SL.pure rfl rfl rfl (PureOp.move rfl) ?_
        refine SL.ung rfl rfl rfl rfl ?_
        refine SL.calle rfl rfl rfl rfl rfl rfl callable7 (fun w hw => knows_ok w) ?_
        refine SL.norm [_, _, _] rfl ?_
        refine SL.pure rfl rfl rfl (PureOp.pickT rfl rfl) ?_
        refine SL.pure rfl rfl rfl (PureOp.assign rfl) ?_
        refine SL.nil_then ?_
        refine WC.ret ?_
        refine QX.ret1 rfl rfl ?_
        intro w hw
        rfl

end Go.Proofs.Ytblmafknmeicfaa
