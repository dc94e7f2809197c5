import Derived.Test.YtblmafknmeicfaaMtI
import Derived.Test.YtblmafknmeicfaaKnD
namespace Go.Proofs.Ytblmafknmeicfaa
open Go Go.RowKit Eng
set_option linter.unusedVariables false
set_option linter.unusedSimpArgs false

theorem offE_bd {u : Int} : ∀ (l : List Sh) (a : Int), -840 ≤ a ∧ a ≤ 840 → (∀ i, i < l.length → -840 ≤ (nth l i).2 ∧ (nth l i).2 ≤ 840) → -840 ≤ offE u a l ∧ offE u a l ≤ 840
  | [], a, h, _ => h
  | s :: q, a, h, hq => by
    unfold offE
    split
    · exact h
    · exact offE_bd q s.2 (hq 0 (by simp)) (fun i hi => hq (i + 1) (by simp only [List.length_cons]; omega))
theorem ZnOk.bd {u o : Int} {l : List Sh} {n : Nat} (h : ZnOk o l n) (hn : n = l.length) : -840 ≤ offE u o l ∧ offE u o l ≤ 840 := offE_bd l o h.o (fun i hi => h.of_ i (by omega))
/-- the last shift that has come -/
def offL (u o : Int) (l : List Sh) : Nat → Int
  | 0 => o
  | k + 1 => if (nth l k).1 ≤ u then (nth l k).2 else offL u o l k
theorem offL_eq {u o : Int} {l : List Sh} {n : Nat} (h : ZnOk o l n) (hn : n = l.length) : offL u o l n = offE u o l := by
  have key : ∀ k, k ≤ n → offE u (offL u o l k) (l.drop k) = offE u o l ∨ (0 < k ∧ u < (nth l (k - 1)).1 ∧ offL u o l k = offE u o l) := by
    intro k
    induction k with
    | zero => intro _; exact .inl rfl
    | succ k ih =>
      intro hk
      rcases ih (by omega) with e | ⟨h1, h2, h3⟩
      · rw [offE_drop (by omega)] at e
        by_cases q : u < (nth l k).1
        · rw [if_pos q] at e
          refine .inr ⟨by omega, q, ?_⟩
          rw [offL, if_neg (by omega)]; exact e
        · rw [if_neg q] at e
          refine .inl ?_
          rw [offL, if_pos (by omega)]; exact e
      · have h4 := h.up (k - 1) (by omega)
        rw [show k - 1 + 1 = k from by omega] at h4
        refine .inr ⟨by omega, ?_, ?_⟩
        · show u < (nth l k).1
          omega
        · rw [offL, if_neg (by omega)]; exact h3
  rcases key n (Nat.le_refl _) with e | ⟨_, _, e⟩
  · rw [offE_end (by omega)] at e; exact e
  · exact e
theorem depA_zn {al : List Ai} (hza : ∀ a ∈ al, ZnOk a.2.2.2.1 a.2.2.2.2.l a.2.2.2.2.l.length) (cd : ByteArray) : ZnOk (findE al cd).1.2.2.2.1 (findE al cd).1.2.2.2.2.l (findE al cd).1.2.2.2.2.l.length := by
  rcases findE_mem cd al with h | h
  · exact hza _ h
  · rw [h]; exact ⟨show (-840 : Int) ≤ 0 ∧ (0 : Int) ≤ 840 by decide, fun i hi => absurd hi (by simp [ai0]), fun i hi => absurd hi (by simp [ai0]), fun i hi => absurd hi (by simp [ai0])⟩
theorem hof_zn {al : List Ai} (hza : ∀ a ∈ al, ZnOk a.2.2.2.1 a.2.2.2.2.l a.2.2.2.2.l.length) : ∀ a ∈ al, ∀ u, -1000000 ≤ offE u a.2.2.2.1 a.2.2.2.2.l ∧ offE u a.2.2.2.1 a.2.2.2.2.l ≤ 1000000 := fun a ha u => by
  have := (hza a ha).bd (u := u) rfl
  omega
def dayE (al : List Ai) (wl : List Wa) (x : Pt) : Int := if (depA al wl x).2 = true then depD al wl x else 0
def dyeE (al : List Ai) (wl : List Wa) (x : Pt) : Int := if (depA al wl x).2 = true then 0 else 14
theorem dayE_no {al : List Ai} {wl : List Wa} {x : Pt} (h : (depA al wl x).2 = false) : dayE al wl x = 0 := by rw [dayE, if_neg (by rw [h]; simp)]
theorem dyeE_no {al : List Ai} {wl : List Wa} {x : Pt} (h : (depA al wl x).2 = false) : dyeE al wl x = 14 := by rw [dyeE, if_neg (by rw [h]; simp)]
theorem dayE_yes {al : List Ai} {wl : List Wa} {x : Pt} (h : (depA al wl x).2 = true) : dayE al wl x = depD al wl x := by rw [dayE, if_pos h]
theorem dyeE_yes {al : List Ai} {wl : List Wa} {x : Pt} (h : (depA al wl x).2 = true) : dyeE al wl x = 0 := by rw [dyeE, if_pos h]
theorem dye_no {al : List Ai} {wl : List Wa} {x : Pt} (h : dyeE al wl x ≠ 0) : (depA al wl x).2 = false := by
  cases e : (depA al wl x).2 with
  | false => rfl
  | true => exact absurd (dyeE_yes e) h
theorem dye_yes {al : List Ai} {wl : List Wa} {x : Pt} (h : dyeE al wl x = 0) : (depA al wl x).2 = true := by
  cases e : (depA al wl x).2 with
  | true => rfl
  | false => rw [dyeE_no e] at h; exact absurd h (by decide)
def pairA (fl : List Fa) (rl : List Ru) (al : List Ai) (wl : List Wa) (a b : Pt) : Int :=
  if (depA al wl a).2 = false ∨ (depA al wl b).2 = false then 14
  else if stayE (ruleX fl rl a) (depD al wl a) (depD al wl b) ≠ 0 then stayE (ruleX fl rl a) (depD al wl a) (depD al wl b)
  else stayE (ruleX fl rl b) (depD al wl a) (depD al wl b)
theorem pairS_A (fl : List Fa) (rl : List Ru) (al : List Ai) (wl : List Wa) (pl : List Pt) (x : Nat × Nat) : pairS fl rl al wl pl x = pairA fl rl al wl (nth pl x.1) (nth pl x.2) := rfl
theorem pairA_p {fl : List Fa} {rl : List Ru} {al : List Ai} {wl : List Wa} {a b : Pt} (h : dyeE al wl a ≠ 0 ∨ dyeE al wl b ≠ 0) : pairA fl rl al wl a b = 14 := by rw [pairA, if_pos (h.imp dye_no dye_no)]
theorem pairA_1 {fl : List Fa} {rl : List Ru} {al : List Ai} {wl : List Wa} {a b : Pt} (h : dyeE al wl a = 0 ∧ dyeE al wl b = 0) (h2 : stayE (ruleX fl rl a) (dayE al wl a) (dayE al wl b) ≠ 0) : pairA fl rl al wl a b = stayE (ruleX fl rl a) (dayE al wl a) (dayE al wl b) := by
  have q1 := dye_yes h.1; have q2 := dye_yes h.2
  rw [dayE_yes q1, dayE_yes q2] at h2 ⊢
  rw [pairA, if_neg (by simp [q1, q2]), if_pos h2]
theorem pairA_2 {fl : List Fa} {rl : List Ru} {al : List Ai} {wl : List Wa} {a b : Pt} (h : dyeE al wl a = 0 ∧ dyeE al wl b = 0) (h2 : stayE (ruleX fl rl a) (dayE al wl a) (dayE al wl b) = 0) : pairA fl rl al wl a b = stayE (ruleX fl rl b) (dayE al wl a) (dayE al wl b) := by
  have q1 := dye_yes h.1; have q2 := dye_yes h.2
  rw [dayE_yes q1, dayE_yes q2] at h2 ⊢
  rw [pairA, if_neg (by simp [q1, q2]), if_neg (by simp [h2])]
set_option maxHeartbeats 4000000 in
set_option maxRecDepth 100000 in
theorem rfind_ok (u3 : SliceV Unit) (al : List Ai) (aao : Option Addr) (an acap : Nat) (han : an = al.length) (w0 : World) (sA : SliceIn w0 5 aao an acap (rowsF enc88 al)) (hab : an ≤ 1000) (cd : ByteArray) : FnC Try.prog 70 [.agg #[.slice aao an acap, .slice u3.ao u3.l.length u3.cap], .string cd] w0 fun v w' => v = .tuple #[.agg (enc88 (findE al cd).1).toArray, .bool (findE al cd).2] := by
  refine fnc (N := 28) Try.func70 rfl rfl rfl ?_
  refine WC.seq ?_
  refine WC.region ?_
  refine SL.box rfl rfl rfl (fun b1 hb1 => ?_)
  refine SL.norm [_] rfl ?_
  refine SL.alloc rfl rfl zero88 (fun b2 hb2 => ?_)
  refine SL.norm [_, _] rfl ?_
  refine SL.pure rfl rfl rfl (PureOp.assign rfl) ?_
  refine SL.nil_then ?_
  refine WC.seq ?_
  refine WC.seq ?_
  refine WC.region ?_
  refine SL.pure rfl rfl rfl (PureOp.assign rfl) ?_
  refine SL.nil_then ?_
  refine WC.block ?_
  refine WC.loop (σ := Nat) (fun q_ => [(0, 0, .agg #[.slice aao an acap, .slice u3.ao u3.l.length u3.cap]), (1, 0, .string cd), (2, 0, .pointer (some ⟨b1, 0, none⟩)), (4, 0, .pointer (some ⟨b2, 0, none⟩)), (6, 0, .int .i64 ((q_ : Nat) : Int))]) (fun q_ => [Item.cells b1 [.slice aao an acap, .slice u3.ao u3.l.length u3.cap] 39, Item.cells b2 [.string (⟨#[]⟩), .string (⟨#[]⟩), .string (⟨#[]⟩), .int .i64 0, .slice none 0 0] 88]) (fun q_ => q_ ≤ an ∧ findE (al.drop q_) cd = findE al cd) (fun q_ => an - q_) 2 (0) (⟨Nat.zero_le _, rfl⟩) ⟨rfl, rfl, rfl, rfl, rfl, rfl, rfl, rfl, rfl, rfl, trivial⟩ rfl ?_
  rintro k ⟨hk, hs⟩
  refine WC.seq ?_
  refine WC.seq ?_
  refine WC.region ?_
  refine SL.pure rfl rfl rfl (PureOp.move rfl) ?_
  refine SL.pure rfl rfl rfl (PureOp.fieldAddrT 0 Try.underlying39 rfl sz36 rfl rfl) ?_
  refine SL.pure rfl rfl rfl (PureOp.load (v := .slice aao an acap) Try.underlying36 rfl rfl (fun _ => (CellIs.cells 0 rfl rfl))) ?_
  refine SL.pure rfl rfl rfl (PureOp.len rfl Try.underlying36) ?_
  refine SL.pure rfl rfl rfl (PureOp.lss rfl rfl) ?_
  refine SL.nil_then ?_
  refine WC.cond rfl (fun h1 => ?_) (fun h1 => ?_)
  · try simp only [Bool.and_eq_true, Bool.or_eq_true, Bool.not_eq_true', Bool.not_eq_false', Bool.and_eq_false_iff, Bool.or_eq_false_iff, decide_eq_true_eq, decide_eq_false_iff_not, Int.not_lt, Int.not_le, ne_eq, Decidable.not_not] at h1
    refine WC.skip ?_
    refine QX.then_ ?_
    refine WC.seq ?_
    refine WC.block ?_
    refine WC.seq ?_
    refine WC.region ?_
    refine SL.pure rfl rfl rfl (PureOp.fieldAddrT 0 Try.underlying39 rfl sz36 rfl rfl) ?_
    refine SL.pure rfl rfl rfl (PureOp.load (v := .slice aao an acap) Try.underlying36 rfl rfl (fun _ => (CellIs.cells 0 rfl rfl))) ?_
    refine SL.pure rfl rfl rfl (PureOp.move rfl) ?_
    refine SL.pure rfl rfl rfl (PureOp.indexAddrN Try.underlying36 sz88 rfl rfl (AoOk.in_ sA) (fun _ => by omega)) ?_
    refine SL.pure rfl rfl rfl (PureOp.fieldAddr 0 Try.underlying88 rfl rfl sz9 rfl) ?_
    refine SL.pure rfl rfl rfl (PureOp.load (v := .string ((nth al k).1)) Try.underlying9 rfl rfl (fun _ => (CellIs.in_ sA k 0 (by omega) (by omega)))) ?_
    refine SL.pure rfl rfl rfl (PureOp.move rfl) ?_
    refine SL.pure rfl rfl rfl (PureOp.eqls rfl rfl) ?_
    refine SL.nil_then ?_
    refine WC.cond rfl (fun h2 => ?_) (fun h2 => ?_)
    · try simp only [Bool.and_eq_true, Bool.or_eq_true, Bool.not_eq_true', Bool.not_eq_false', Bool.and_eq_false_iff, Bool.or_eq_false_iff, decide_eq_true_eq, decide_eq_false_iff_not, Int.not_lt, Int.not_le, ne_eq, Decidable.not_not] at h2
      refine WC.seq ?_
      refine WC.region ?_
      refine SL.pure rfl rfl rfl (PureOp.fieldAddrT 0 Try.underlying39 rfl sz36 rfl rfl) ?_
      refine SL.pure rfl rfl rfl (PureOp.load (v := .slice aao an acap) Try.underlying36 rfl rfl (fun _ => (CellIs.cells 0 rfl rfl))) ?_
      refine SL.pure rfl rfl rfl (PureOp.move rfl) ?_
      refine SL.pure rfl rfl rfl (PureOp.indexAddrN Try.underlying36 sz88 rfl rfl (AoOk.in_ sA) (fun _ => by omega)) ?_
      refine SL.pure rfl rfl rfl (PureOp.loads (vs := [.string ((nth al k).1), .string ((nth al k).2.1), .string ((nth al k).2.2.1), .int .i64 ((nth al k).2.2.2.1), .slice ((nth al k).2.2.2.2.ao) ((nth al k).2.2.2.2.l.length) ((nth al k).2.2.2.2.cap)]) Try.underlying88 rfl rfl (fun _ => (RowIs.in_ sA k 0 5 (by omega) (by omega))) sz88) ?_
      refine SL.store 1 rfl rfl rfl rfl sz88 rfl rfl ?_
      refine SL.norm [_, _] rfl ?_
      refine SL.pure rfl rfl rfl (PureOp.assign rfl) ?_
      refine SL.nil_then ?_
      refine WC.ret ?_
      refine QX.ret_in ?_
      refine QX.ret_then ?_
      refine QX.ret_then ?_
      refine QX.ret_in ?_
      refine QX.ret_then ?_
      refine QX.retv rfl (RVs.cons (RV.cell rfl Try.underlying88 rfl (RowIs.cells 1 0 5 rfl rfl) sz88) (RVs.cons (RV.tmp rfl) RVs.nil)) ?_
      intro w hw
      rw [findE_drop (by omega), if_pos (by simpa using h2)] at hs
      rw [← hs]; rfl
    · try simp only [Bool.and_eq_true, Bool.or_eq_true, Bool.not_eq_true', Bool.not_eq_false', Bool.and_eq_false_iff, Bool.or_eq_false_iff, decide_eq_true_eq, decide_eq_false_iff_not, Int.not_lt, Int.not_le, ne_eq, Decidable.not_not] at h2
      refine WC.skip ?_
      refine QX.normal_in ?_
      refine QX.then_ ?_
      refine WC.region ?_
      refine SL.pure rfl rfl rfl (PureOp.move rfl) ?_
      refine SL.pure rfl rfl rfl (PureOp.addN (k := 1) rfl rfl (fun _ => by omega)) ?_
      refine SL.pure rfl rfl rfl (PureOp.assign rfl) ?_
      refine SL.nil ?_
      refine QX.round 2 (k + 1) ⟨⟨(by first | omega | (dsimp only; omega)), by rw [findE_drop (by omega), if_neg (by simpa using h2)] at hs; exact hs⟩, by first | omega | (dsimp only; omega)⟩ ⟨rfl, rfl, rfl, rfl, rfl, rfl, rfl, rfl, rfl, rfl, trivial⟩ rfl
  · try simp only [Bool.and_eq_true, Bool.or_eq_true, Bool.not_eq_true', Bool.not_eq_false', Bool.and_eq_false_iff, Bool.or_eq_false_iff, decide_eq_true_eq, decide_eq_false_iff_not, Int.not_lt, Int.not_le, ne_eq, Decidable.not_not] at h1
    refine WC.exit ?_
    refine QX.exit_then ?_
    refine QX.exit_then ?_
    refine QX.exit_hit ?_
    refine QX.then_ ?_
    refine WC.seq ?_
    refine WC.region ?_
    refine SL.pure rfl rfl rfl (PureOp.build bld88 rfl rfl) ?_
    refine SL.store 1 rfl rfl rfl rfl sz88 rfl rfl ?_
    refine SL.norm [_, _] rfl ?_
    refine SL.pure rfl rfl rfl (PureOp.assign rfl) ?_
    refine SL.nil_then ?_
    refine WC.ret ?_
    refine QX.retv rfl (RVs.cons (RV.cell rfl Try.underlying88 rfl (RowIs.cells 1 0 5 rfl rfl) sz88) (RVs.cons (RV.tmp rfl) RVs.nil)) ?_
    intro w hw
    rw [findE_end (by omega)] at hs
    rw [← hs]; rfl

set_option maxHeartbeats 4000000 in
set_option maxRecDepth 100000 in
theorem roffset_ok (o : Int) (zl : List Sh) (zao : Option Addr) (zn zcap : Nat) (hzn : zn = zl.length) (u : Int) (w0 : World) (sZ : SliceIn w0 2 zao zn zcap (rowsF enc133 zl)) (hZ : ZnOk o zl zn) : FnC Try.prog 80 [.agg #[.int .i64 o, .slice zao zn zcap], .int .i64 u] w0 fun v w' => v = .int .i64 (offE u o zl) := by
  have hzm : (zn : Int) ≤ 9223372036854775807 := by
    have q1 := sZ.le; have q2 := sZ.max; simp only [maxLen] at q2; omega
  refine fnc (N := 31) Try.func80 rfl rfl rfl ?_
  refine WC.seq ?_
  refine WC.region ?_
  refine SL.box rfl rfl rfl (fun b1 hb1 => ?_)
  refine SL.norm [_] rfl ?_
  refine SL.pure rfl rfl rfl (PureOp.assign rfl) ?_
  refine SL.nil_then ?_
  refine WC.seq ?_
  refine WC.region ?_
  refine SL.pure rfl rfl rfl (PureOp.fieldAddrT 0 Try.underlying86 rfl sz3 rfl rfl) ?_
  refine SL.pure rfl rfl rfl (PureOp.load (v := .int .i64 o) Try.underlying3 rfl rfl (fun _ => (CellIs.cells 0 rfl rfl))) ?_
  refine SL.pure rfl rfl rfl (PureOp.assign rfl) ?_
  refine SL.nil_then ?_
  refine WC.seq ?_
  refine WC.seq ?_
  refine WC.region ?_
  refine SL.pure rfl rfl rfl (PureOp.assign rfl) ?_
  refine SL.nil_then ?_
  refine WC.block ?_
  refine WC.loop (σ := Nat × Int) (fun q_ => [(0, 0, .agg #[.int .i64 o, .slice zao zn zcap]), (1, 0, .int .i64 u), (2, 0, .pointer (some ⟨b1, 0, none⟩)), (4, 0, .int .i64 0), (7, 0, .pointer (some ⟨b1, 0, none⟩)), (8, 0, .int .i64 o), (6, 0, .int .i64 ((q_.1 : Nat) : Int)), (5, 0, .int .i64 q_.2)]) (fun q_ => [Item.cells b1 [.int .i64 o, .slice zao zn zcap] 86]) (fun q_ => q_.1 ≤ zn ∧ q_.2 = offL u o zl q_.1) (fun q_ => zn - q_.1) 1 ((0, o)) (⟨Nat.zero_le _, rfl⟩) ⟨rfl, rfl, rfl, rfl, rfl, rfl, rfl, rfl, rfl, rfl, rfl, rfl, rfl, rfl, rfl, rfl, trivial⟩ rfl ?_
  rintro ⟨k, a⟩ ⟨hk, hs⟩
  try dsimp only at *
  refine WC.seq ?_
  refine WC.seq ?_
  refine WC.region ?_
  refine SL.pure rfl rfl rfl (PureOp.move rfl) ?_
  refine SL.pure rfl rfl rfl (PureOp.fieldAddrT 1 Try.underlying86 rfl sz84 rfl rfl) ?_
  refine SL.pure rfl rfl rfl (PureOp.load (v := .slice zao zn zcap) Try.underlying84 rfl rfl (fun _ => (CellIs.cells 0 rfl rfl))) ?_
  refine SL.pure rfl rfl rfl (PureOp.len rfl Try.underlying84) ?_
  refine SL.pure rfl rfl rfl (PureOp.lss rfl rfl) ?_
  refine SL.nil_then ?_
  refine WC.cond rfl (fun h1 => ?_) (fun h1 => ?_)
  · try simp only [Bool.and_eq_true, Bool.or_eq_true, Bool.not_eq_true', Bool.not_eq_false', Bool.and_eq_false_iff, Bool.or_eq_false_iff, decide_eq_true_eq, decide_eq_false_iff_not, Int.not_lt, Int.not_le, ne_eq, Decidable.not_not] at h1
    refine WC.skip ?_
    refine QX.then_ ?_
    refine WC.seq ?_
    refine WC.block ?_
    refine WC.seq ?_
    refine WC.region ?_
    refine SL.pure rfl rfl rfl (PureOp.fieldAddrT 1 Try.underlying86 rfl sz84 rfl rfl) ?_
    refine SL.pure rfl rfl rfl (PureOp.load (v := .slice zao zn zcap) Try.underlying84 rfl rfl (fun _ => (CellIs.cells 0 rfl rfl))) ?_
    refine SL.pure rfl rfl rfl (PureOp.move rfl) ?_
    refine SL.pure rfl rfl rfl (PureOp.indexAddrN Try.underlying84 sz133 rfl rfl (AoOk.in_ sZ) (fun _ => by omega)) ?_
    refine SL.pure rfl rfl rfl (PureOp.fieldAddr 0 Try.underlying133 rfl rfl sz3 rfl) ?_
    refine SL.pure rfl rfl rfl (PureOp.load (v := .int .i64 ((nth zl k).1)) Try.underlying3 rfl rfl (fun _ => (CellIs.in_ sZ k 0 (by omega) (by omega)))) ?_
    refine SL.pure rfl rfl rfl (PureOp.move rfl) ?_
    refine SL.pure rfl rfl rfl (PureOp.leq rfl rfl) ?_
    refine SL.nil_then ?_
    refine WC.cond rfl (fun h2 => ?_) (fun h2 => ?_)
    · try simp only [Bool.and_eq_true, Bool.or_eq_true, Bool.not_eq_true', Bool.not_eq_false', Bool.and_eq_false_iff, Bool.or_eq_false_iff, decide_eq_true_eq, decide_eq_false_iff_not, Int.not_lt, Int.not_le, ne_eq, Decidable.not_not] at h2
      refine WC.region ?_
      refine SL.pure rfl rfl rfl (PureOp.fieldAddrT 1 Try.underlying86 rfl sz84 rfl rfl) ?_
      refine SL.pure rfl rfl rfl (PureOp.load (v := .slice zao zn zcap) Try.underlying84 rfl rfl (fun _ => (CellIs.cells 0 rfl rfl))) ?_
      refine SL.pure rfl rfl rfl (PureOp.move rfl) ?_
      refine SL.pure rfl rfl rfl (PureOp.indexAddrN Try.underlying84 sz133 rfl rfl (AoOk.in_ sZ) (fun _ => by omega)) ?_
      refine SL.pure rfl rfl rfl (PureOp.fieldAddr 1 Try.underlying133 rfl rfl sz3 rfl) ?_
      refine SL.pure rfl rfl rfl (PureOp.load (v := .int .i64 ((nth zl k).2)) Try.underlying3 rfl rfl (fun _ => (CellIs.in_ sZ k 1 (by omega) (by omega)))) ?_
      refine SL.pure rfl rfl rfl (PureOp.assign rfl) ?_
      refine SL.nil ?_
      refine QX.normal_in ?_
      refine QX.then_ ?_
      refine WC.region ?_
      refine SL.pure rfl rfl rfl (PureOp.move rfl) ?_
      refine SL.pure rfl rfl rfl (PureOp.addN (k := 1) rfl rfl (fun _ => by omega)) ?_
      refine SL.pure rfl rfl rfl (PureOp.assign rfl) ?_
      refine SL.nil ?_
      refine QX.round (σ := Nat × Int) (Ef := fun q_ => [(0, 0, .agg #[.int .i64 o, .slice zao zn zcap]), (1, 0, .int .i64 u), (2, 0, .pointer (some ⟨b1, 0, none⟩)), (4, 0, .int .i64 0), (7, 0, .pointer (some ⟨b1, 0, none⟩)), (8, 0, .int .i64 o), (6, 0, .int .i64 ((q_.1 : Nat) : Int)), (5, 0, .int .i64 q_.2)]) (Hf := fun q_ => [Item.cells b1 [.int .i64 o, .slice zao zn zcap] 86]) (I := fun q_ => q_.1 ≤ zn ∧ q_.2 = offL u o zl q_.1) (μ := fun q_ => zn - q_.1) (s := (k, a)) 1 ((k + 1, (nth zl k).2)) ⟨⟨(by first | omega | (dsimp only; omega)), by first | (show (nth zl k).2 = offL u o zl (k + 1); rw [offL, if_pos (by omega)]) | (show a = offL u o zl (k + 1); rw [offL, if_neg (by omega)]; exact hs)⟩, by first | omega | (dsimp only; omega)⟩ ⟨rfl, rfl, rfl, rfl, rfl, rfl, rfl, rfl, rfl, rfl, rfl, rfl, rfl, rfl, rfl, rfl, trivial⟩ rfl
    · try simp only [Bool.and_eq_true, Bool.or_eq_true, Bool.not_eq_true', Bool.not_eq_false', Bool.and_eq_false_iff, Bool.or_eq_false_iff, decide_eq_true_eq, decide_eq_false_iff_not, Int.not_lt, Int.not_le, ne_eq, Decidable.not_not] at h2
      refine WC.skip ?_
      refine QX.normal_in ?_
      refine QX.then_ ?_
      refine WC.region ?_
      refine SL.pure rfl rfl rfl (PureOp.move rfl) ?_
      refine SL.pure rfl rfl rfl (PureOp.addN (k := 1) rfl rfl (fun _ => by omega)) ?_
      refine SL.pure rfl rfl rfl (PureOp.assign rfl) ?_
      refine SL.nil ?_
      refine QX.round (σ := Nat × Int) (Ef := fun q_ => [(0, 0, .agg #[.int .i64 o, .slice zao zn zcap]), (1, 0, .int .i64 u), (2, 0, .pointer (some ⟨b1, 0, none⟩)), (4, 0, .int .i64 0), (7, 0, .pointer (some ⟨b1, 0, none⟩)), (8, 0, .int .i64 o), (6, 0, .int .i64 ((q_.1 : Nat) : Int)), (5, 0, .int .i64 q_.2)]) (Hf := fun q_ => [Item.cells b1 [.int .i64 o, .slice zao zn zcap] 86]) (I := fun q_ => q_.1 ≤ zn ∧ q_.2 = offL u o zl q_.1) (μ := fun q_ => zn - q_.1) (s := (k, a)) 1 ((k + 1, a)) ⟨⟨(by first | omega | (dsimp only; omega)), by first | (show (nth zl k).2 = offL u o zl (k + 1); rw [offL, if_pos (by omega)]) | (show a = offL u o zl (k + 1); rw [offL, if_neg (by omega)]; exact hs)⟩, by first | omega | (dsimp only; omega)⟩ ⟨rfl, rfl, rfl, rfl, rfl, rfl, rfl, rfl, rfl, rfl, rfl, rfl, rfl, rfl, rfl, rfl, trivial⟩ rfl
  · try simp only [Bool.and_eq_true, Bool.or_eq_true, Bool.not_eq_true', Bool.not_eq_false', Bool.and_eq_false_iff, Bool.or_eq_false_iff, decide_eq_true_eq, decide_eq_false_iff_not, Int.not_lt, Int.not_le, ne_eq, Decidable.not_not] at h1
    refine WC.exit ?_
    refine QX.exit_then ?_
    refine QX.exit_then ?_
    refine QX.exit_hit ?_
    refine QX.then_ ?_
    refine WC.seq ?_
    refine WC.region ?_
    refine SL.pure rfl rfl rfl (PureOp.move rfl) ?_
    refine SL.pure rfl rfl rfl (PureOp.assign rfl) ?_
    refine SL.nil_then ?_
    refine WC.ret ?_
    refine QX.ret1 rfl rfl ?_
    intro w hw
    rw [hs, ← offL_eq hZ hzn, show zn = k from by omega]

set_option maxHeartbeats 4000000 in
set_option maxRecDepth 100000 in
theorem rlocal_ok (o : Int) (zl : List Sh) (zao : Option Addr) (zn zcap : Nat) (hzn : zn = zl.length) (u : Int) (w0 : World) (sZ : SliceIn w0 2 zao zn zcap (rowsF enc133 zl)) (hu : -2199023255552 ≤ u ∧ u ≤ 2199023255552) (hZ : ZnOk o zl zn) : FnC Try.prog 72 [.agg #[.int .i64 o, .slice zao zn zcap], .int .i64 u] w0 fun v w' => v = .int .i64 (u + offE u o zl) := by
  have hob := hZ.bd (u := u) hzn
  refine fnc (N := 10) Try.func72 rfl rfl rfl ?_
  refine WC.seq ?_
  refine WC.region ?_
  refine SL.box rfl rfl rfl (fun b1 hb1 => ?_)
  refine SL.norm [_] rfl ?_
  refine SL.pure rfl rfl rfl (PureOp.assign rfl) ?_
  refine SL.nil_then ?_
  refine WC.seq ?_
  refine WC.region ?_
  refine SL.pure rfl rfl rfl (PureOp.move rfl) ?_
  refine SL.pure rfl rfl rfl (PureOp.loads (vs := [.int .i64 o, .slice zao zn zcap]) Try.underlying86 rfl rfl (fun _ => (RowIs.cells 0 0 2 rfl rfl)) sz86) ?_
  refine SL.pure rfl rfl rfl (PureOp.move rfl) ?_
  refine SL.calle rfl rfl rfl rfl rfl rfl callable80 (fun w hw => roffset_ok o zl zao zn zcap hzn u w (sZ.below hw.below) hZ) ?_
  refine SL.norm [_] rfl ?_
  refine SL.pure rfl rfl rfl (PureOp.add rfl rfl (fun _ => by omega)) ?_
  refine SL.pure rfl rfl rfl (PureOp.assign rfl) ?_
  refine SL.nil_then ?_
  refine WC.ret ?_
  refine QX.ret1 rfl rfl ?_
  intro w hw
  rfl

set_option maxHeartbeats 4000000 in
set_option maxRecDepth 100000 in
theorem rsplit_ok (u : Int) (hu : -4398046511104 ≤ u ∧ u ≤ 4398046511104) (w0 : World) : FnC Try.prog 71 [.int .i64 u] w0 fun v w' => ∃ m, v = .tuple #[.int .i64 (splitD u), .int .i64 m] := by
  refine fnc (N := 18) Try.func71 rfl rfl rfl ?_
  refine WC.seq ?_
  refine WC.region ?_
  refine SL.pure rfl rfl rfl (PureOp.assign rfl) ?_
  refine SL.pure rfl rfl rfl (PureOp.assign rfl) ?_
  refine SL.nil_then ?_
  refine WC.seq ?_
  refine WC.region ?_
  refine SL.pure rfl rfl rfl (PureOp.move rfl) ?_
  refine SL.pure rfl rfl rfl (PureOp.quo rfl rfl (fun _ => by first | omega | (have q1 := Int.mul_tdiv_add_tmod u 1440; have q2 := tmod_bd u; omega))) ?_
  refine SL.pure rfl rfl rfl (PureOp.move rfl) ?_
  refine SL.pure rfl rfl rfl (PureOp.rem rfl rfl (fun _ => by first | omega | (have q1 := Int.mul_tdiv_add_tmod u 1440; have q2 := tmod_bd u; omega))) ?_
  refine SL.pure rfl rfl rfl (PureOp.assign rfl) ?_
  refine SL.pure rfl rfl rfl (PureOp.assign rfl) ?_
  refine SL.nil_then ?_
  refine WC.seq ?_
  refine WC.seq ?_
  refine WC.region ?_
  refine SL.pure rfl rfl rfl (PureOp.move rfl) ?_
  refine SL.pure rfl rfl rfl (PureOp.lss rfl rfl) ?_
  refine SL.nil_then ?_
  refine WC.cond rfl (fun h1 => ?_) (fun h1 => ?_)
  · try simp only [Bool.and_eq_true, Bool.or_eq_true, Bool.not_eq_true', Bool.not_eq_false', Bool.and_eq_false_iff, Bool.or_eq_false_iff, decide_eq_true_eq, decide_eq_false_iff_not, Int.not_lt, Int.not_le, ne_eq, Decidable.not_not] at h1
    refine WC.seq ?_
    refine WC.region ?_
    refine SL.pure rfl rfl rfl (PureOp.move rfl) ?_
    refine SL.pure rfl rfl rfl (PureOp.sub rfl rfl (fun _ => by first | omega | (have q1 := Int.mul_tdiv_add_tmod u 1440; have q2 := tmod_bd u; omega))) ?_
    refine SL.pure rfl rfl rfl (PureOp.move rfl) ?_
    refine SL.pure rfl rfl rfl (PureOp.add rfl rfl (fun _ => by first | omega | (have q1 := Int.mul_tdiv_add_tmod u 1440; have q2 := tmod_bd u; omega))) ?_
    refine SL.pure rfl rfl rfl (PureOp.assign rfl) ?_
    refine SL.pure rfl rfl rfl (PureOp.assign rfl) ?_
    refine SL.nil_then ?_
    refine WC.ret ?_
    refine QX.ret_then ?_
    refine QX.ret2 rfl rfl rfl ?_
    intro w hw
    exact ⟨_, by rw [splitD, if_pos h1]⟩
  · try simp only [Bool.and_eq_true, Bool.or_eq_true, Bool.not_eq_true', Bool.not_eq_false', Bool.and_eq_false_iff, Bool.or_eq_false_iff, decide_eq_true_eq, decide_eq_false_iff_not, Int.not_lt, Int.not_le, ne_eq, Decidable.not_not] at h1
    refine WC.skip ?_
    refine QX.then_ ?_
    refine WC.seq ?_
    refine WC.region ?_
    refine SL.pure rfl rfl rfl (PureOp.move rfl) ?_
    refine SL.pure rfl rfl rfl (PureOp.move rfl) ?_
    refine SL.pure rfl rfl rfl (PureOp.assign rfl) ?_
    refine SL.pure rfl rfl rfl (PureOp.assign rfl) ?_
    refine SL.nil_then ?_
    refine WC.ret ?_
    refine QX.ret2 rfl rfl rfl ?_
    intro w hw
    exact ⟨_, by rw [splitD, if_neg (by omega)]⟩

set_option maxHeartbeats 4000000 in
set_option maxRecDepth 100000 in
theorem rday_ok (u3 : SliceV Unit) (al : List Ai) (aao : Option Addr) (an acap : Nat) (han : an = al.length) (w0 : World) (sA : SliceIn w0 5 aao an acap (rowsF enc88 al)) (hab : an ≤ 1000) (wl : List Wa) (wao : Option Addr) (wn wcap : Nat) (hwn : wn = wl.length) (sW : SliceIn w0 8 wao wn wcap (rowsF enc62 wl)) (hwb : wn ≤ 1000) (hdp : ∀ i, i < wn → -1099511627776 ≤ (nth wl i).1.2.2.2.2.2.1 ∧ (nth wl i).1.2.2.2.2.2.1 ≤ 1099511627776) (hsh : ∀ a ∈ al, SliceIn w0 2 a.2.2.2.2.ao a.2.2.2.2.l.length a.2.2.2.2.cap (rowsF enc133 a.2.2.2.2.l)) (hza : ∀ a ∈ al, ZnOk a.2.2.2.1 a.2.2.2.2.l a.2.2.2.2.l.length) (x : Pt) (hx : 0 ≤ x.1 ∧ x.1 < wn) : FnC Try.prog 51 [.agg #[.slice aao an acap, .slice u3.ao u3.l.length u3.cap], .agg #[.string ((nth wl (x.1).toNat).1.1), .int .i64 ((nth wl (x.1).toNat).1.2.1), .int .i64 ((nth wl (x.1).toNat).1.2.2.1), .string ((nth wl (x.1).toNat).1.2.2.2.1), .string ((nth wl (x.1).toNat).1.2.2.2.2.1), .int .i64 ((nth wl (x.1).toNat).1.2.2.2.2.2.1), .int .i64 ((nth wl (x.1).toNat).1.2.2.2.2.2.2)]] w0 fun v w' => v = .tuple #[.int .i64 (dayE al wl x), .int .i64 (dyeE al wl x)] := by
  refine fnc (N := 29) Try.func51 rfl rfl rfl ?_
  refine WC.seq ?_
  refine WC.region ?_
  refine SL.box rfl rfl rfl (fun b1 hb1 => ?_)
  refine SL.norm [_] rfl ?_
  refine SL.box rfl rfl rfl (fun b2 hb2 => ?_)
  refine SL.norm [_, _] rfl ?_
  refine SL.pure rfl rfl rfl (PureOp.assign rfl) ?_
  refine SL.pure rfl rfl rfl (PureOp.assign rfl) ?_
  refine SL.nil_then ?_
  refine WC.seq ?_
  refine WC.region ?_
  refine SL.pure rfl rfl rfl (PureOp.loads (vs := [.slice aao an acap, .slice u3.ao u3.l.length u3.cap]) Try.underlying39 rfl rfl (fun _ => (RowIs.cells 0 0 2 rfl rfl)) sz39) ?_
  refine SL.pure rfl rfl rfl (PureOp.fieldAddrT 3 Try.underlying60 rfl sz9 rfl rfl) ?_
  refine SL.pure rfl rfl rfl (PureOp.load (v := .string ((nth wl (x.1).toNat).1.2.2.2.1)) Try.underlying9 rfl rfl (fun _ => (CellIs.cells 1 rfl rfl))) ?_
  refine SL.calle rfl rfl rfl rfl rfl rfl callable70 (fun w hw => rfind_ok u3 al aao an acap han w (sA.below hw.below) hab (nth wl (x.1).toNat).1.2.2.2.1) ?_
  refine SL.norm [_, _] rfl ?_
  refine SL.pure rfl rfl rfl (PureOp.move rfl) ?_
  refine SL.pure rfl rfl rfl (PureOp.extract rfl rfl) ?_
  refine SL.pure rfl rfl rfl (PureOp.extract rfl rfl) ?_
  refine SL.alloc rfl rfl zero88 (fun b3 hb3 => ?_)
  refine SL.norm [_, _, _] rfl ?_
  refine SL.store 2 rfl rfl rfl rfl sz88 rfl rfl ?_
  refine SL.norm [_, _, _] rfl ?_
  refine SL.pure rfl rfl rfl (PureOp.assign rfl) ?_
  refine SL.nil_then ?_
  refine WC.seq ?_
  refine WC.seq ?_
  refine WC.region ?_
  refine SL.pure rfl rfl rfl (PureOp.move rfl) ?_
  refine SL.pure rfl rfl rfl (PureOp.not rfl) ?_
  refine SL.nil_then ?_
  refine WC.cond rfl (fun h1 => ?_) (fun h1 => ?_)
  · try simp only [Bool.and_eq_true, Bool.or_eq_true, Bool.not_eq_true', Bool.not_eq_false', Bool.and_eq_false_iff, Bool.or_eq_false_iff, decide_eq_true_eq, decide_eq_false_iff_not, Int.not_lt, Int.not_le, ne_eq, Decidable.not_not] at h1
    refine WC.seq ?_
    refine WC.region ?_
    refine SL.pure rfl rfl rfl (PureOp.assign rfl) ?_
    refine SL.pure rfl rfl rfl (PureOp.assign rfl) ?_
    refine SL.nil_then ?_
    refine WC.ret ?_
    refine QX.ret_then ?_
    refine QX.ret2 rfl rfl rfl ?_
    intro w hw
    rw [dayE_no (al := al) (wl := wl) (x := x) h1, dyeE_no (al := al) (wl := wl) (x := x) h1]
  · try simp only [Bool.and_eq_true, Bool.or_eq_true, Bool.not_eq_true', Bool.not_eq_false', Bool.and_eq_false_iff, Bool.or_eq_false_iff, decide_eq_true_eq, decide_eq_false_iff_not, Int.not_lt, Int.not_le, ne_eq, Decidable.not_not] at h1
    refine WC.skip ?_
    refine QX.then_ ?_
    refine WC.seq ?_
    refine WC.region ?_
    refine SL.pure rfl rfl rfl (PureOp.fieldAddrT 3 Try.underlying88 rfl sz86 rfl rfl) ?_
    refine SL.pure rfl rfl rfl (PureOp.loads (vs := [.int .i64 ((findE al (nth wl (x.1).toNat).1.2.2.2.1).1.2.2.2.1), .slice ((findE al (nth wl (x.1).toNat).1.2.2.2.1).1.2.2.2.2.ao) ((findE al (nth wl (x.1).toNat).1.2.2.2.1).1.2.2.2.2.l.length) ((findE al (nth wl (x.1).toNat).1.2.2.2.1).1.2.2.2.2.cap)]) Try.underlying86 rfl rfl (fun _ => (RowIs.cells 2 3 2 rfl rfl)) sz86) ?_
    refine SL.pure rfl rfl rfl (PureOp.fieldAddrT 5 Try.underlying60 rfl sz3 rfl rfl) ?_
    refine SL.pure rfl rfl rfl (PureOp.load (v := .int .i64 ((nth wl (x.1).toNat).1.2.2.2.2.2.1)) Try.underlying3 rfl rfl (fun _ => (CellIs.cells 1 rfl rfl))) ?_
    refine SL.calle rfl rfl rfl rfl rfl rfl callable72 (fun w hw => rlocal_ok _ _ _ _ _ rfl (nth wl (x.1).toNat).1.2.2.2.2.2.1 w (depA_in (wl := wl) (fun a ha => (hsh a ha).below hw.below) (nth wl (x.1).toNat).1.2.2.2.1) (by have q := hdp (x.1).toNat (by omega); omega) (depA_zn hza _)) ?_
    refine SL.norm [_, _, _] rfl ?_
    refine SL.callv rfl rfl rfl rfl rfl rfl callable71 (fun w hw => rsplit_ok ((nth wl (x.1).toNat).1.2.2.2.2.2.1 + offE (nth wl (x.1).toNat).1.2.2.2.2.2.1 (findE al (nth wl (x.1).toNat).1.2.2.2.1).1.2.2.2.1 (findE al (nth wl (x.1).toNat).1.2.2.2.1).1.2.2.2.2.l) (by have q := hdp (x.1).toNat (by omega); have q2 := (depA_zn hza ((nth wl (x.1).toNat).1.2.2.2.1)).bd (u := (nth wl (x.1).toNat).1.2.2.2.2.2.1) rfl; omega) w) ?_
    rintro v ⟨mm, rfl⟩
    refine SL.norm [_, _, _] rfl ?_
    refine SL.pure rfl rfl rfl (PureOp.move rfl) ?_
    refine SL.pure rfl rfl rfl (PureOp.extract rfl rfl) ?_
    refine SL.pure rfl rfl rfl (PureOp.extract rfl rfl) ?_
    refine SL.pure rfl rfl rfl (PureOp.assign rfl) ?_
    refine SL.pure rfl rfl rfl (PureOp.assign rfl) ?_
    refine SL.nil_then ?_
    refine WC.seq ?_
    refine WC.region ?_
    refine SL.pure rfl rfl rfl (PureOp.move rfl) ?_
    refine SL.pure rfl rfl rfl (PureOp.assign rfl) ?_
    refine SL.pure rfl rfl rfl (PureOp.assign rfl) ?_
    refine SL.nil_then ?_
    refine WC.ret ?_
    refine QX.ret2 rfl rfl rfl ?_
    intro w hw
    (rw [dayE_yes (al := al) (wl := wl) (x := x) h1, dyeE_yes (al := al) (wl := wl) (x := x) h1]) <;> rfl

set_option maxHeartbeats 4000000 in
set_option maxRecDepth 100000 in
theorem rstay_ok (r : Ru) (o b : Int) (w0 : World) : FnC Try.prog 52 [.agg #[.int .i64 r.1, .int .i64 r.2.1.1, .slice r.2.1.2.1.ao r.2.1.2.1.l.length r.2.1.2.1.cap, .int .i64 r.2.1.2.2.1, .int .i64 r.2.1.2.2.2.1, .int .i64 r.2.1.2.2.2.2.1.1, .int .i64 r.2.1.2.2.2.2.1.2.1, .int .i64 r.2.1.2.2.2.2.1.2.2, .slice r.2.1.2.2.2.2.2.ao r.2.1.2.2.2.2.2.l.length r.2.1.2.2.2.2.2.cap, .slice r.2.2.1.ao r.2.2.1.l.length r.2.2.1.cap, .int .i64 r.2.2.2.1, .int .i64 r.2.2.2.2.1, .int .i64 r.2.2.2.2.2.1, .int .i64 r.2.2.2.2.2.2.1, .slice r.2.2.2.2.2.2.2.ao r.2.2.2.2.2.2.2.l.length r.2.2.2.2.2.2.2.cap], .int .i64 o, .int .i64 b] w0 fun v w' => v = .int .i64 (stayE r o b) := by
  refine fnc (N := 40) Try.func52 rfl rfl rfl ?_
  refine WC.seq ?_
  refine WC.region ?_
  refine SL.box rfl rfl rfl (fun b1 hb1 => ?_)
  refine SL.norm [_] rfl ?_
  refine SL.pure rfl rfl rfl (PureOp.assign rfl) ?_
  refine SL.nil_then ?_
  refine WC.seq ?_
  refine WC.seq ?_
  refine WC.region ?_
  refine SL.pure rfl rfl rfl (PureOp.move rfl) ?_
  refine SL.pure rfl rfl rfl (PureOp.lss rfl rfl) ?_
  refine SL.pure rfl rfl rfl (PureOp.move rfl) ?_
  refine SL.newg 9 false rfl ?_
  refine SL.gpure (c := 1) rfl rfl rfl rfl rfl rfl rfl (PureOp.move rfl) ?_
  refine SL.gpure (c := 1) rfl rfl rfl rfl rfl rfl rfl (PureOp.geq rfl rfl) ?_
  refine SL.pure rfl rfl rfl (PureOp.or_ rfl rfl rfl rfl) ?_
  refine SL.pure rfl rfl rfl (PureOp.move rfl) ?_
  refine SL.newg 13 false rfl ?_
  refine SL.gpure (c := 2) rfl rfl rfl rfl rfl rfl rfl (PureOp.move rfl) ?_
  refine SL.gpure (c := 2) rfl rfl rfl rfl rfl rfl rfl (PureOp.lss rfl rfl) ?_
  refine SL.pure rfl rfl rfl (PureOp.or_ rfl rfl rfl rfl) ?_
  refine SL.pure rfl rfl rfl (PureOp.move rfl) ?_
  refine SL.newg 17 false rfl ?_
  refine SL.gpure (c := 3) rfl rfl rfl rfl rfl rfl rfl (PureOp.move rfl) ?_
  refine SL.gpure (c := 3) rfl rfl rfl rfl rfl rfl rfl (PureOp.geq rfl rfl) ?_
  refine SL.pure rfl rfl rfl (PureOp.or_ rfl rfl rfl rfl) ?_
  refine SL.nil_then ?_
  refine WC.cond rfl (fun h1 => ?_) (fun h1 => ?_)
  · try simp only [Bool.and_eq_true, Bool.or_eq_true, Bool.not_eq_true', Bool.not_eq_false', Bool.and_eq_false_iff, Bool.or_eq_false_iff, decide_eq_true_eq, decide_eq_false_iff_not, Int.not_lt, Int.not_le, ne_eq, Decidable.not_not] at h1
    refine WC.seq ?_
    refine WC.region ?_
    refine SL.pure rfl rfl rfl (PureOp.assign rfl) ?_
    refine SL.nil_then ?_
    refine WC.ret ?_
    refine QX.ret_then ?_
    refine QX.ret1 rfl rfl ?_
    intro w hw
    rw [stayE, if_pos (by omega)]
  · try simp only [Bool.and_eq_true, Bool.or_eq_true, Bool.not_eq_true', Bool.not_eq_false', Bool.and_eq_false_iff, Bool.or_eq_false_iff, decide_eq_true_eq, decide_eq_false_iff_not, Int.not_lt, Int.not_le, ne_eq, Decidable.not_not] at h1
    refine WC.skip ?_
    refine QX.then_ ?_
    refine WC.seq ?_
    refine WC.seq ?_
    refine WC.region ?_
    refine SL.pure rfl rfl rfl (PureOp.move rfl) ?_
    refine SL.pure rfl rfl rfl (PureOp.move rfl) ?_
    refine SL.pure rfl rfl rfl (PureOp.sub rfl rfl (fun _ => by omega)) ?_
    refine SL.pure rfl rfl rfl (PureOp.fieldAddrT 10 Try.underlying76 rfl sz3 rfl rfl) ?_
    refine SL.pure rfl rfl rfl (PureOp.load (v := .int .i64 r.2.2.2.1) Try.underlying3 rfl rfl (fun _ => (CellIs.cells 0 rfl rfl))) ?_
    refine SL.pure rfl rfl rfl (PureOp.lss rfl rfl) ?_
    refine SL.pure rfl rfl rfl (PureOp.move rfl) ?_
    refine SL.newg 27 false rfl ?_
    refine SL.gpure (c := 4) rfl rfl rfl rfl rfl rfl rfl (PureOp.fieldAddrT 11 Try.underlying76 rfl sz3 rfl rfl) ?_
    refine SL.gpure (c := 4) rfl rfl rfl rfl rfl rfl rfl (PureOp.load (v := .int .i64 r.2.2.2.2.1) Try.underlying3 rfl rfl (fun _ => (CellIs.cells 0 rfl rfl))) ?_
    refine SL.gpure (c := 4) rfl rfl rfl rfl rfl rfl rfl (PureOp.gtr rfl rfl) ?_
    refine SL.gpure (c := 4) rfl rfl rfl rfl rfl rfl rfl (PureOp.move rfl) ?_
    refine SL.newg 31 true rfl ?_
    refine SL.gpure (c := 5) rfl rfl rfl rfl rfl rfl rfl (PureOp.move rfl) ?_
    refine SL.gpure (c := 5) rfl rfl rfl rfl rfl rfl rfl (PureOp.move rfl) ?_
    refine SL.gpure (c := 5) rfl rfl rfl rfl rfl rfl rfl (PureOp.sub rfl rfl (by intro hg; simp [gval] at hg; omega)) ?_
    refine SL.gpure (c := 5) rfl rfl rfl rfl rfl rfl rfl (PureOp.fieldAddrT 11 Try.underlying76 rfl sz3 rfl rfl) ?_
    refine SL.gpure (c := 5) rfl rfl rfl rfl rfl rfl rfl (PureOp.load (v := .int .i64 r.2.2.2.2.1) Try.underlying3 rfl rfl (fun _ => (CellIs.cells 0 rfl rfl))) ?_
    refine SL.gpure (c := 5) rfl rfl rfl rfl rfl rfl rfl (PureOp.gtr rfl rfl) ?_
    refine SL.gpure (c := 4) rfl rfl rfl rfl rfl rfl rfl (PureOp.and_ rfl rfl rfl rfl) ?_
    refine SL.pure rfl rfl rfl (PureOp.or_ rfl rfl rfl rfl) ?_
    refine SL.nil_then ?_
    refine WC.cond rfl (fun h2 => ?_) (fun h2 => ?_)
    · try simp only [Bool.and_eq_true, Bool.or_eq_true, Bool.not_eq_true', Bool.not_eq_false', Bool.and_eq_false_iff, Bool.or_eq_false_iff, decide_eq_true_eq, decide_eq_false_iff_not, Int.not_lt, Int.not_le, ne_eq, Decidable.not_not] at h2
      refine WC.seq ?_
      refine WC.region ?_
      refine SL.pure rfl rfl rfl (PureOp.assign rfl) ?_
      refine SL.nil_then ?_
      refine WC.ret ?_
      refine QX.ret_then ?_
      refine QX.ret1 rfl rfl ?_
      intro w hw
      rw [stayE, if_neg (by omega), if_pos (by omega)]
    · try simp only [Bool.and_eq_true, Bool.or_eq_true, Bool.not_eq_true', Bool.not_eq_false', Bool.and_eq_false_iff, Bool.or_eq_false_iff, decide_eq_true_eq, decide_eq_false_iff_not, Int.not_lt, Int.not_le, ne_eq, Decidable.not_not] at h2
      refine WC.skip ?_
      refine QX.then_ ?_
      refine WC.seq ?_
      refine WC.region ?_
      refine SL.pure rfl rfl rfl (PureOp.assign rfl) ?_
      refine SL.nil_then ?_
      refine WC.ret ?_
      refine QX.ret1 rfl rfl ?_
      intro w hw
      rw [stayE, if_neg (by omega), if_neg (by omega)]

set_option maxHeartbeats 4000000 in
set_option maxRecDepth 100000 in
theorem rpair_ok (u3 : SliceV Unit) (al : List Ai) (aao : Option Addr) (an acap : Nat) (han : an = al.length) (u1 u2 : SliceV Unit) (fl : List Fa) (rl : List Ru) (rao : Option Addr) (rn rcap : Nat) (fao : Option Addr) (fn fcap : Nat) (hfn : fn = fl.length) (hrn : rn = rl.length) (w0 : World) (sA : SliceIn w0 5 aao an acap (rowsF enc88 al)) (hab : an ≤ 1000) (hf : SliceIn w0 9 fao fn fcap (rowsF enc52 fl)) (hr : SliceIn w0 15 rao rn rcap (rowsF enc76 rl)) (hfb : fn ≤ 1000) (hrb : rn ≤ 1000) (hcm : ∀ r ∈ rl, SliceIn w0 1 r.2.2.1.ao r.2.2.1.l.length r.2.2.1.cap (rowsF encI r.2.2.1.l)) (wl : List Wa) (wao : Option Addr) (wn wcap : Nat) (hwn : wn = wl.length) (sW : SliceIn w0 8 wao wn wcap (rowsF enc62 wl)) (hwb : wn ≤ 1000) (hdp : ∀ i, i < wn → -1099511627776 ≤ (nth wl i).1.2.2.2.2.2.1 ∧ (nth wl i).1.2.2.2.2.2.1 ≤ 1099511627776) (hsh : ∀ a ∈ al, SliceIn w0 2 a.2.2.2.2.ao a.2.2.2.2.l.length a.2.2.2.2.cap (rowsF enc133 a.2.2.2.2.l)) (hza : ∀ a ∈ al, ZnOk a.2.2.2.1 a.2.2.2.2.l a.2.2.2.2.l.length) (pa pb : Pt) (hpa : 0 ≤ pa.1 ∧ pa.1 < wn) (hpb : 0 ≤ pb.1 ∧ pb.1 < wn) (gpa : 0 ≤ pa.2.2.1 ∧ pa.2.2.1 < fn) (gpb : 0 ≤ pb.2.2.1 ∧ pb.2.2.1 < fn) : FnC Try.prog 32 [.agg #[.slice aao an acap, .slice u3.ao u3.l.length u3.cap], .agg #[.slice fao fn fcap, .slice rao rn rcap, .slice u1.ao u1.l.length u1.cap, .slice u2.ao u2.l.length u2.cap], .slice wao wn wcap, .agg #[.int .i64 pa.1, .int .i64 pa.2.1, .int .i64 pa.2.2.1, .int .i64 pa.2.2.2], .agg #[.int .i64 pb.1, .int .i64 pb.2.1, .int .i64 pb.2.2.1, .int .i64 pb.2.2.2]] w0 fun v w' => v = .int .i64 (pairA fl rl al wl pa pb) := by
  refine fnc (N := 59) Try.func32 rfl rfl rfl ?_
  refine WC.seq ?_
  refine WC.region ?_
  refine SL.box rfl rfl rfl (fun b1 hb1 => ?_)
  refine SL.norm [_] rfl ?_
  refine SL.box rfl rfl rfl (fun b2 hb2 => ?_)
  refine SL.norm [_, _] rfl ?_
  refine SL.box rfl rfl rfl (fun b3 hb3 => ?_)
  refine SL.norm [_, _, _] rfl ?_
  refine SL.box rfl rfl rfl (fun b4 hb4 => ?_)
  refine SL.norm [_, _, _, _] rfl ?_
  refine SL.pure rfl rfl rfl (PureOp.assign rfl) ?_
  refine SL.nil_then ?_
  refine WC.seq ?_
  refine WC.quiet rfl (by kernel_rfl) ?_
  refine SQ.pure rfl rfl rfl (PureOp.loads (vs := [.slice aao an acap, .slice u3.ao u3.l.length u3.cap]) Try.underlying39 rfl rfl (fun _ => (RowIs.cells 0 0 2 rfl rfl)) sz39) ?_
  refine SQ.pure rfl rfl rfl (PureOp.move rfl) ?_
  refine SQ.pure rfl rfl rfl (PureOp.fieldAddrT 0 Try.underlying42 rfl sz3 rfl rfl) ?_
  refine SQ.pure rfl rfl rfl (PureOp.load (v := .int .i64 pa.1) Try.underlying3 rfl rfl (fun _ => (CellIs.cells 2 rfl rfl))) ?_
  refine SQ.pure rfl rfl rfl (PureOp.indexAddr Try.underlying45 sz62 rfl rfl (AoOk.in_ sW) (fun _ => by omega)) ?_
  refine SQ.pure rfl rfl rfl (PureOp.fieldAddr 0 Try.underlying62 rfl rfl sz60 rfl) ?_
  refine SQ.pure rfl rfl rfl (PureOp.loads (vs := [.string ((nth wl ((pa.1).toNat)).1.1), .int .i64 ((nth wl ((pa.1).toNat)).1.2.1), .int .i64 ((nth wl ((pa.1).toNat)).1.2.2.1), .string ((nth wl ((pa.1).toNat)).1.2.2.2.1), .string ((nth wl ((pa.1).toNat)).1.2.2.2.2.1), .int .i64 ((nth wl ((pa.1).toNat)).1.2.2.2.2.2.1), .int .i64 ((nth wl ((pa.1).toNat)).1.2.2.2.2.2.2)]) Try.underlying60 rfl rfl (fun _ => (RowIs.in_ sW ((pa.1).toNat) 0 7 (by omega) (by omega))) sz60) ?_
  refine SQ.calle rfl rfl rfl rfl rfl rfl callable51 (fun w hw => rday_ok u3 al aao an acap han w (sA.below hw.below) hab wl wao wn wcap hwn (sW.below hw.below) hwb hdp (fun a ha => (hsh a ha).below hw.below) hza pa hpa) ?_
  refine SQ.pure rfl rfl rfl (PureOp.move rfl) ?_
  refine SQ.pure rfl rfl rfl (PureOp.extract rfl rfl) ?_
  refine SQ.pure rfl rfl rfl (PureOp.extract rfl rfl) ?_
  refine SQ.pure rfl rfl rfl (PureOp.assign rfl) ?_
  refine SQ.pure rfl rfl rfl (PureOp.assign rfl) ?_
  refine SQ.nil_then ?_
  refine WC.seq ?_
  refine WC.quiet rfl (by kernel_rfl) ?_
  refine SQ.pure rfl rfl rfl (PureOp.loads (vs := [.slice aao an acap, .slice u3.ao u3.l.length u3.cap]) Try.underlying39 rfl rfl (fun _ => (RowIs.cells 0 0 2 rfl rfl)) sz39) ?_
  refine SQ.pure rfl rfl rfl (PureOp.move rfl) ?_
  refine SQ.pure rfl rfl rfl (PureOp.fieldAddrT 0 Try.underlying42 rfl sz3 rfl rfl) ?_
  refine SQ.pure rfl rfl rfl (PureOp.load (v := .int .i64 pb.1) Try.underlying3 rfl rfl (fun _ => (CellIs.cells 3 rfl rfl))) ?_
  refine SQ.pure rfl rfl rfl (PureOp.indexAddr Try.underlying45 sz62 rfl rfl (AoOk.in_ sW) (fun _ => by omega)) ?_
  refine SQ.pure rfl rfl rfl (PureOp.fieldAddr 0 Try.underlying62 rfl rfl sz60 rfl) ?_
  refine SQ.pure rfl rfl rfl (PureOp.loads (vs := [.string ((nth wl ((pb.1).toNat)).1.1), .int .i64 ((nth wl ((pb.1).toNat)).1.2.1), .int .i64 ((nth wl ((pb.1).toNat)).1.2.2.1), .string ((nth wl ((pb.1).toNat)).1.2.2.2.1), .string ((nth wl ((pb.1).toNat)).1.2.2.2.2.1), .int .i64 ((nth wl ((pb.1).toNat)).1.2.2.2.2.2.1), .int .i64 ((nth wl ((pb.1).toNat)).1.2.2.2.2.2.2)]) Try.underlying60 rfl rfl (fun _ => (RowIs.in_ sW ((pb.1).toNat) 0 7 (by omega) (by omega))) sz60) ?_
  refine SQ.calle rfl rfl rfl rfl rfl rfl callable51 (fun w hw => rday_ok u3 al aao an acap han w (sA.below hw.below) hab wl wao wn wcap hwn (sW.below hw.below) hwb hdp (fun a ha => (hsh a ha).below hw.below) hza pb hpb) ?_
  refine SQ.pure rfl rfl rfl (PureOp.move rfl) ?_
  refine SQ.pure rfl rfl rfl (PureOp.extract rfl rfl) ?_
  refine SQ.pure rfl rfl rfl (PureOp.extract rfl rfl) ?_
  refine SQ.pure rfl rfl rfl (PureOp.assign rfl) ?_
  refine SQ.pure rfl rfl rfl (PureOp.assign rfl) ?_
  refine SQ.nil_then ?_
  refine WC.seq ?_
  refine WC.seq ?_
  refine WC.region ?_
  refine SL.pure rfl rfl rfl (PureOp.move rfl) ?_
  refine SL.pure rfl rfl rfl (PureOp.neq rfl rfl) ?_
  refine SL.pure rfl rfl rfl (PureOp.move rfl) ?_
  refine SL.newg 40 false rfl ?_
  refine SL.gpure (c := 1) rfl rfl rfl rfl rfl rfl rfl (PureOp.move rfl) ?_
  refine SL.gpure (c := 1) rfl rfl rfl rfl rfl rfl rfl (PureOp.neq rfl rfl) ?_
  refine SL.pure rfl rfl rfl (PureOp.or_ rfl rfl rfl rfl) ?_
  refine SL.nil_then ?_
  refine WC.cond rfl (fun h1 => ?_) (fun h1 => ?_)
  · try simp only [Bool.and_eq_true, Bool.or_eq_true, Bool.not_eq_true', Bool.not_eq_false', Bool.and_eq_false_iff, Bool.or_eq_false_iff, decide_eq_true_eq, decide_eq_false_iff_not, Int.not_lt, Int.not_le, ne_eq, Decidable.not_not] at h1
    refine WC.seq ?_
    refine WC.region ?_
    refine SL.pure rfl rfl rfl (PureOp.assign rfl) ?_
    refine SL.nil_then ?_
    refine WC.ret ?_
    refine QX.ret_then ?_
    refine QX.ret1 rfl rfl ?_
    intro w hw
    rw [pairA_p h1]
  · try simp only [Bool.and_eq_true, Bool.or_eq_true, Bool.not_eq_true', Bool.not_eq_false', Bool.and_eq_false_iff, Bool.or_eq_false_iff, decide_eq_true_eq, decide_eq_false_iff_not, Int.not_lt, Int.not_le, ne_eq, Decidable.not_not] at h1
    refine WC.skip ?_
    refine QX.then_ ?_
    refine WC.seq ?_
    refine WC.seq ?_
    refine WC.region ?_
    refine SL.pure rfl rfl rfl (PureOp.loads (vs := [.slice fao fn fcap, .slice rao rn rcap, .slice u1.ao u1.l.length u1.cap, .slice u2.ao u2.l.length u2.cap]) Try.underlying27 rfl rfl (fun _ => (RowIs.cells 1 0 4 rfl rfl)) sz27) ?_
    refine SL.pure rfl rfl rfl (PureOp.loads (vs := [.int .i64 pa.1, .int .i64 pa.2.1, .int .i64 pa.2.2.1, .int .i64 pa.2.2.2]) Try.underlying42 rfl rfl (fun _ => (RowIs.cells 2 0 4 rfl rfl)) sz42) ?_
    refine SL.calle rfl rfl rfl rfl rfl rfl callable29 (fun w hw => rruleof_ok u1 u2 fl rl rao rn rcap fao fn fcap hfn hrn w (hf.below hw.below) (hr.below hw.below) hfb hrb pa gpa) ?_
    refine SL.norm [_, _, _, _] rfl ?_
    refine SL.pure rfl rfl rfl (PureOp.move rfl) ?_
    refine SL.pure rfl rfl rfl (PureOp.move rfl) ?_
    refine SL.calle rfl rfl rfl rfl rfl rfl callable52 (fun w hw => rstay_ok (ruleX fl rl pa) (dayE al wl pa) (dayE al wl pb) w) ?_
    refine SL.norm [_, _, _, _] rfl ?_
    refine SL.pure rfl rfl rfl (PureOp.assign rfl) ?_
    refine SL.nil_then ?_
    refine WC.seq ?_
    refine WC.region ?_
    refine SL.pure rfl rfl rfl (PureOp.move rfl) ?_
    refine SL.pure rfl rfl rfl (PureOp.neq rfl rfl) ?_
    refine SL.nil_then ?_
    refine WC.cond rfl (fun h2 => ?_) (fun h2 => ?_)
    · try simp only [Bool.and_eq_true, Bool.or_eq_true, Bool.not_eq_true', Bool.not_eq_false', Bool.and_eq_false_iff, Bool.or_eq_false_iff, decide_eq_true_eq, decide_eq_false_iff_not, Int.not_lt, Int.not_le, ne_eq, Decidable.not_not] at h2
      refine WC.seq ?_
      refine WC.region ?_
      refine SL.pure rfl rfl rfl (PureOp.move rfl) ?_
      refine SL.pure rfl rfl rfl (PureOp.assign rfl) ?_
      refine SL.nil_then ?_
      refine WC.ret ?_
      refine QX.ret_then ?_
      refine QX.ret1 rfl rfl ?_
      intro w hw
      rw [pairA_1 h1 h2]
    · try simp only [Bool.and_eq_true, Bool.or_eq_true, Bool.not_eq_true', Bool.not_eq_false', Bool.and_eq_false_iff, Bool.or_eq_false_iff, decide_eq_true_eq, decide_eq_false_iff_not, Int.not_lt, Int.not_le, ne_eq, Decidable.not_not] at h2
      refine WC.skip ?_
      refine QX.then_ ?_
      refine WC.seq ?_
      refine WC.region ?_
      refine SL.pure rfl rfl rfl (PureOp.loads (vs := [.slice fao fn fcap, .slice rao rn rcap, .slice u1.ao u1.l.length u1.cap, .slice u2.ao u2.l.length u2.cap]) Try.underlying27 rfl rfl (fun _ => (RowIs.cells 1 0 4 rfl rfl)) sz27) ?_
      refine SL.pure rfl rfl rfl (PureOp.loads (vs := [.int .i64 pb.1, .int .i64 pb.2.1, .int .i64 pb.2.2.1, .int .i64 pb.2.2.2]) Try.underlying42 rfl rfl (fun _ => (RowIs.cells 3 0 4 rfl rfl)) sz42) ?_
      refine SL.calle rfl rfl rfl rfl rfl rfl callable29 (fun w hw => rruleof_ok u1 u2 fl rl rao rn rcap fao fn fcap hfn hrn w (hf.below hw.below) (hr.below hw.below) hfb hrb pb gpb) ?_
      refine SL.norm [_, _, _, _] rfl ?_
      refine SL.pure rfl rfl rfl (PureOp.move rfl) ?_
      refine SL.pure rfl rfl rfl (PureOp.move rfl) ?_
      refine SL.calle rfl rfl rfl rfl rfl rfl callable52 (fun w hw => rstay_ok (ruleX fl rl pb) (dayE al wl pa) (dayE al wl pb) w) ?_
      refine SL.norm [_, _, _, _] rfl ?_
      refine SL.pure rfl rfl rfl (PureOp.assign rfl) ?_
      refine SL.nil_then ?_
      refine WC.ret ?_
      refine QX.ret1 rfl rfl ?_
      intro w hw
      rw [pairA_2 h1 h2]

set_option maxHeartbeats 4000000 in
set_option maxRecDepth 100000 in
theorem rstays_ok (u3 : SliceV Unit) (al : List Ai) (aao : Option Addr) (an acap : Nat) (han : an = al.length) (u1 u2 : SliceV Unit) (fl : List Fa) (rl : List Ru) (rao : Option Addr) (rn rcap : Nat) (fao : Option Addr) (fn fcap : Nat) (hfn : fn = fl.length) (hrn : rn = rl.length) (w0 : World) (sA : SliceIn w0 5 aao an acap (rowsF enc88 al)) (hab : an ≤ 1000) (hf : SliceIn w0 9 fao fn fcap (rowsF enc52 fl)) (hr : SliceIn w0 15 rao rn rcap (rowsF enc76 rl)) (hfb : fn ≤ 1000) (hrb : rn ≤ 1000) (hcm : ∀ r ∈ rl, SliceIn w0 1 r.2.2.1.ao r.2.2.1.l.length r.2.2.1.cap (rowsF encI r.2.2.1.l)) (wl : List Wa) (wao : Option Addr) (wn wcap : Nat) (hwn : wn = wl.length) (sW : SliceIn w0 8 wao wn wcap (rowsF enc62 wl)) (hwb : wn ≤ 1000) (hdp : ∀ i, i < wn → -1099511627776 ≤ (nth wl i).1.2.2.2.2.2.1 ∧ (nth wl i).1.2.2.2.2.2.1 ≤ 1099511627776) (hsh : ∀ a ∈ al, SliceIn w0 2 a.2.2.2.2.ao a.2.2.2.2.l.length a.2.2.2.2.cap (rowsF enc133 a.2.2.2.2.l)) (hza : ∀ a ∈ al, ZnOk a.2.2.2.1 a.2.2.2.2.l a.2.2.2.2.l.length) (pl : List Pt) (pao : Option Addr) (pn pcap : Nat) (hpn : pn = pl.length) (hp : SliceIn w0 4 pao pn pcap (rowsF enc42 pl)) (hpb : pn ≤ 1000) : FnC Try.prog 15 [.agg #[.slice aao an acap, .slice u3.ao u3.l.length u3.cap], .agg #[.slice fao fn fcap, .slice rao rn rcap, .slice u1.ao u1.l.length u1.cap, .slice u2.ao u2.l.length u2.cap], .slice wao wn wcap, .slice pao pn pcap] w0 fun v w' => v = .int .i64 (staysE wn (resP (allK (prF fn pl) pl.length) 19 23 pn (rdF fl pl) (mtF fl pl)) fl rl al wl pl) := by
  refine fnc (N := 74) Try.func15 rfl rfl rfl ?_
  refine WC.seq ?_
  refine WC.region ?_
  refine SL.box rfl rfl rfl (fun b1 hb1 => ?_)
  refine SL.norm [_] rfl ?_
  refine SL.box rfl rfl rfl (fun b2 hb2 => ?_)
  refine SL.norm [_, _] rfl ?_
  refine SL.pure rfl rfl rfl (PureOp.assign rfl) ?_
  refine SL.nil_then ?_
  refine WC.seq ?_
  refine WC.seq ?_
  refine WC.region ?_
  refine SL.pure rfl rfl rfl (PureOp.assign rfl) ?_
  refine SL.nil_then ?_
  refine WC.block ?_
  refine WC.loop (σ := Nat) (fun q_ => [(0, 0, .agg #[.slice aao an acap, .slice u3.ao u3.l.length u3.cap]), (1, 0, .agg #[.slice fao fn fcap, .slice rao rn rcap, .slice u1.ao u1.l.length u1.cap, .slice u2.ao u2.l.length u2.cap]), (2, 0, .slice wao wn wcap), (3, 0, .slice pao pn pcap), (4, 0, .pointer (some ⟨b1, 0, none⟩)), (5, 0, .pointer (some ⟨b2, 0, none⟩)), (9, 0, .int .i64 ((q_ : Nat) : Int))]) (fun q_ => [Item.cells b1 [.slice aao an acap, .slice u3.ao u3.l.length u3.cap] 39, Item.cells b2 [.slice fao fn fcap, .slice rao rn rcap, .slice u1.ao u1.l.length u1.cap, .slice u2.ao u2.l.length u2.cap] 27]) (fun q_ => q_ ≤ pn ∧ allK (fromB wn pl) q_ = true) (fun q_ => pn - q_) 2 (0) (⟨Nat.zero_le _, rfl⟩) ⟨rfl, rfl, rfl, rfl, rfl, rfl, rfl, rfl, rfl, rfl, rfl, rfl, rfl, rfl, trivial⟩ rfl ?_
  rintro k ⟨hk, hz⟩
  refine WC.seq ?_
  refine WC.seq ?_
  refine WC.region ?_
  refine SL.pure rfl rfl rfl (PureOp.move rfl) ?_
  refine SL.pure rfl rfl rfl (PureOp.move rfl) ?_
  refine SL.pure rfl rfl rfl (PureOp.len rfl Try.underlying28) ?_
  refine SL.pure rfl rfl rfl (PureOp.lss rfl rfl) ?_
  refine SL.nil_then ?_
  refine WC.cond rfl (fun h1 => ?_) (fun h1 => ?_)
  · try simp only [Bool.and_eq_true, Bool.or_eq_true, Bool.not_eq_true', Bool.not_eq_false', Bool.and_eq_false_iff, Bool.or_eq_false_iff, decide_eq_true_eq, decide_eq_false_iff_not, Int.not_lt, Int.not_le, ne_eq, Decidable.not_not] at h1
    refine WC.skip ?_
    refine QX.then_ ?_
    refine WC.seq ?_
    refine WC.block ?_
    refine WC.seq ?_
    refine WC.region ?_
    refine SL.pure rfl rfl rfl (PureOp.move rfl) ?_
    refine SL.pure rfl rfl rfl (PureOp.move rfl) ?_
    refine SL.pure rfl rfl rfl (PureOp.indexAddrN Try.underlying28 sz42 rfl rfl (AoOk.in_ hp) (fun _ => by omega)) ?_
    refine SL.pure rfl rfl rfl (PureOp.fieldAddr 0 Try.underlying42 rfl rfl sz3 rfl) ?_
    refine SL.pure rfl rfl rfl (PureOp.load (v := .int .i64 ((nth pl k).1)) Try.underlying3 rfl rfl (fun _ => (CellIs.in_ hp k 0 (by omega) (by omega)))) ?_
    refine SL.pure rfl rfl rfl (PureOp.lss rfl rfl) ?_
    refine SL.pure rfl rfl rfl (PureOp.move rfl) ?_
    refine SL.newg 26 false rfl ?_
    refine SL.gpure (c := 1) rfl rfl rfl rfl rfl rfl rfl (PureOp.move rfl) ?_
    refine SL.gpure (c := 1) rfl rfl rfl rfl rfl rfl rfl (PureOp.move rfl) ?_
    refine SL.gpure (c := 1) rfl rfl rfl rfl rfl rfl rfl (PureOp.indexAddrN Try.underlying28 sz42 rfl rfl (AoOk.in_ hp) (by intro hg; simp [gval] at hg; omega)) ?_
    refine SL.gpure (c := 1) rfl rfl rfl rfl rfl rfl rfl (PureOp.fieldAddr 0 Try.underlying42 rfl rfl sz3 rfl) ?_
    refine SL.gpure (c := 1) rfl rfl rfl rfl rfl rfl rfl (PureOp.load (v := .int .i64 ((nth pl k).1)) Try.underlying3 rfl rfl (by intro hg; simp [gval] at hg; exact (CellIs.in_ hp k 0 (by omega) (by omega)))) ?_
    refine SL.gpure (c := 1) rfl rfl rfl rfl rfl rfl rfl (PureOp.move rfl) ?_
    refine SL.gpure (c := 1) rfl rfl rfl rfl rfl rfl rfl (PureOp.len rfl Try.underlying45) ?_
    refine SL.gpure (c := 1) rfl rfl rfl rfl rfl rfl rfl (PureOp.geq rfl rfl) ?_
    refine SL.pure rfl rfl rfl (PureOp.or_ rfl rfl rfl rfl) ?_
    refine SL.nil_then ?_
    refine WC.cond rfl (fun h2 => ?_) (fun h2 => ?_)
    · try simp only [Bool.and_eq_true, Bool.or_eq_true, Bool.not_eq_true', Bool.not_eq_false', Bool.and_eq_false_iff, Bool.or_eq_false_iff, decide_eq_true_eq, decide_eq_false_iff_not, Int.not_lt, Int.not_le, ne_eq, Decidable.not_not] at h2
      refine WC.seq ?_
      refine WC.region ?_
      refine SL.pure rfl rfl rfl (PureOp.assign rfl) ?_
      refine SL.nil_then ?_
      refine WC.ret ?_
      refine QX.ret_in ?_
      refine QX.ret_then ?_
      refine QX.ret_then ?_
      refine QX.ret_in ?_
      refine QX.ret_then ?_
      refine QX.ret1 rfl rfl ?_
      intro w hw
      rw [staysE, if_neg (by rw [allK_not (k := k) (by omega) (fromB_not.2 (by omega))]; simp)]
    · try simp only [Bool.and_eq_true, Bool.or_eq_true, Bool.not_eq_true', Bool.not_eq_false', Bool.and_eq_false_iff, Bool.or_eq_false_iff, decide_eq_true_eq, decide_eq_false_iff_not, Int.not_lt, Int.not_le, ne_eq, Decidable.not_not] at h2
      refine WC.skip ?_
      refine QX.normal_in ?_
      refine QX.then_ ?_
      refine WC.region ?_
      refine SL.pure rfl rfl rfl (PureOp.move rfl) ?_
      refine SL.pure rfl rfl rfl (PureOp.addN (k := 1) rfl rfl (fun _ => by omega)) ?_
      refine SL.pure rfl rfl rfl (PureOp.assign rfl) ?_
      refine SL.nil ?_
      refine QX.round 2 (k + 1) ⟨⟨(by first | omega | (dsimp only; omega)), allK_next hz (fromB_iff.2 (by omega))⟩, by first | omega | (dsimp only; omega)⟩ ⟨rfl, rfl, rfl, rfl, rfl, rfl, rfl, rfl, rfl, rfl, rfl, rfl, rfl, rfl, trivial⟩ rfl
  · try simp only [Bool.and_eq_true, Bool.or_eq_true, Bool.not_eq_true', Bool.not_eq_false', Bool.and_eq_false_iff, Bool.or_eq_false_iff, decide_eq_true_eq, decide_eq_false_iff_not, Int.not_lt, Int.not_le, ne_eq, Decidable.not_not] at h1
    have hfr : allK (fromB wn pl) pl.length = true := by rw [← hpn, show pn = k from by omega]; exact hz
    refine WC.exit ?_
    refine QX.exit_then ?_
    refine QX.exit_then ?_
    refine QX.exit_hit ?_
    refine QX.then_ ?_
    refine WC.seq ?_
    refine WC.region ?_
    refine SL.pure rfl rfl rfl (PureOp.loads (vs := [.slice fao fn fcap, .slice rao rn rcap, .slice u1.ao u1.l.length u1.cap, .slice u2.ao u2.l.length u2.cap]) Try.underlying27 rfl rfl (fun _ => (RowIs.cells 1 0 4 rfl rfl)) sz27) ?_
    refine SL.pure rfl rfl rfl (PureOp.move rfl) ?_
    refine SL.callo (fun ya yc => .tuple #[.slice ya ((resP (allK (prF fn pl) pl.length) 19 23 pn (rdF fl pl) (mtF fl pl)).2.length) yc, .int .i64 ((resP (allK (prF fn pl) pl.length) 19 23 pn (rdF fl pl) (mtF fl pl)).1)]) rfl rfl rfl rfl rfl rfl callable9 (fun w hw => rpairs_ok u1 u2 fl rao rn rcap fao fn fcap hfn w (hf.below hw.below) hfb pl pao pn pcap hpn (hp.below hw.below) hpb) (fun ya yc => ?_)
    refine SL.norm [_, _, _] rfl ?_
    refine SL.pure rfl rfl rfl (PureOp.move rfl) ?_
    refine SL.pure rfl rfl rfl (PureOp.extract rfl rfl) ?_
    refine SL.pure rfl rfl rfl (PureOp.extract rfl rfl) ?_
    refine SL.pure rfl rfl rfl (PureOp.assign rfl) ?_
    refine SL.pure rfl rfl rfl (PureOp.assign rfl) ?_
    refine SL.nil_then ?_
    refine WC.seq ?_
    refine WC.seq ?_
    refine WC.region ?_
    refine SL.pure rfl rfl rfl (PureOp.move rfl) ?_
    refine SL.pure rfl rfl rfl (PureOp.neq rfl rfl) ?_
    refine SL.nil_then ?_
    refine WC.cond rfl (fun h3 => ?_) (fun h3 => ?_)
    · try simp only [Bool.and_eq_true, Bool.or_eq_true, Bool.not_eq_true', Bool.not_eq_false', Bool.and_eq_false_iff, Bool.or_eq_false_iff, decide_eq_true_eq, decide_eq_false_iff_not, Int.not_lt, Int.not_le, ne_eq, Decidable.not_not] at h3
      refine WC.seq ?_
      refine WC.region ?_
      refine SL.pure rfl rfl rfl (PureOp.move rfl) ?_
      refine SL.pure rfl rfl rfl (PureOp.assign rfl) ?_
      refine SL.nil_then ?_
      refine WC.ret ?_
      refine QX.ret_then ?_
      refine QX.ret1 rfl rfl ?_
      intro w hw
      (rw [stays_e hfr h3]) <;> rfl
    · try simp only [Bool.and_eq_true, Bool.or_eq_true, Bool.not_eq_true', Bool.not_eq_false', Bool.and_eq_false_iff, Bool.or_eq_false_iff, decide_eq_true_eq, decide_eq_false_iff_not, Int.not_lt, Int.not_le, ne_eq, Decidable.not_not] at h3
      have hres := res_run (by decide) (by decide) h3
      obtain ⟨hpr, pd, R⟩ := hres
      have hfa : ∀ j, j < pn → 0 ≤ (nth pl j).2.2.1 ∧ (nth pl j).2.2.1 < fn := fun j hj => priced_at hpr (by omega)
      have hrn2 : (resP (allK (prF fn pl) pl.length) 19 23 pn (rdF fl pl) (mtF fl pl)).2.length ≤ 1000 := by have q := R.num; omega
      obtain ⟨out, hout⟩ : ∃ o, o = (resP (allK (prF fn pl) pl.length) 19 23 pn (rdF fl pl) (mtF fl pl)).2 := ⟨_, rfl⟩
      rw [← hout] at R hrn2
      rw [← hout]
      refine WC.skip ?_
      refine QX.then_ ?_
      refine WC.seq ?_
      refine WC.seq ?_
      refine WC.region ?_
      refine SL.pure rfl rfl rfl (PureOp.assign rfl) ?_
      refine SL.nil_then ?_
      refine WC.block ?_
      refine WC.loop (σ := Nat) (fun q_ => [(0, 0, .agg #[.slice aao an acap, .slice u3.ao u3.l.length u3.cap]), (1, 0, .agg #[.slice fao fn fcap, .slice rao rn rcap, .slice u1.ao u1.l.length u1.cap, .slice u2.ao u2.l.length u2.cap]), (2, 0, .slice wao wn wcap), (3, 0, .slice pao pn pcap), (4, 0, .pointer (some ⟨b1, 0, none⟩)), (5, 0, .pointer (some ⟨b2, 0, none⟩)), (9, 0, .int .i64 ((k : Nat) : Int)), (10, 0, .slice ya out.length yc), (11, 0, .int .i64 ((resP (allK (prF fn pl) pl.length) 19 23 pn (rdF fl pl) (mtF fl pl)).1)), (14, 0, .int .i64 ((k : Nat) : Int)), (15, 0, .slice pao pn pcap), (16, 0, .int .i64 ((pn : Nat) : Int)), (17, 0, .bool (decide (((k : Nat) : Int) < ((pn : Nat) : Int)))), (36, 0, .tuple #[.slice ya out.length yc, .int .i64 ((resP (allK (prF fn pl) pl.length) 19 23 pn (rdF fl pl) (mtF fl pl)).1)]), (37, 0, .agg #[.slice fao fn fcap, .slice rao rn rcap, .slice u1.ao u1.l.length u1.cap, .slice u2.ao u2.l.length u2.cap]), (38, 0, .slice pao pn pcap), (39, 0, .tuple #[.slice ya out.length yc, .int .i64 ((resP (allK (prF fn pl) pl.length) 19 23 pn (rdF fl pl) (mtF fl pl)).1)]), (40, 0, .slice ya out.length yc), (41, 0, .int .i64 ((resP (allK (prF fn pl) pl.length) 19 23 pn (rdF fl pl) (mtF fl pl)).1)), (42, 0, .int .i64 ((resP (allK (prF fn pl) pl.length) 19 23 pn (rdF fl pl) (mtF fl pl)).1)), (43, 0, .bool (decide ((resP (allK (prF fn pl) pl.length) 19 23 pn (rdF fl pl) (mtF fl pl)).1 ≠ 0))), (12, 0, .int .i64 ((q_ : Nat) : Int))]) (fun q_ => [Item.cells b1 [.slice aao an acap, .slice u3.ao u3.l.length u3.cap] 39, Item.cells b2 [.slice fao fn fcap, .slice rao rn rcap, .slice u1.ao u1.l.length u1.cap, .slice u2.ao u2.l.length u2.cap] 27, Item.own w0.heap.size ya out.length yc 50 2 (cellsOf encNN out)]) (fun q_ => q_ ≤ out.length ∧ firstZ (fun k => pairS fl rl al wl pl (nth out k)) q_ = 0) (fun q_ => out.length - q_) 3 (0) (⟨Nat.zero_le _, rfl⟩) ⟨rfl, rfl, rfl, rfl, rfl, rfl, rfl, rfl, rfl, rfl, rfl, rfl, rfl, rfl, rfl, rfl, rfl, rfl, rfl, rfl, rfl, rfl, rfl, rfl, rfl, rfl, rfl, rfl, rfl, rfl, rfl, rfl, rfl, rfl, rfl, rfl, rfl, rfl, rfl, rfl, rfl, rfl, rfl, rfl, trivial⟩ rfl ?_
      rintro kk ⟨hkk, hs⟩
      refine WC.seq ?_
      refine WC.seq ?_
      refine WC.region ?_
      refine SL.pure rfl rfl rfl (PureOp.move rfl) ?_
      refine SL.pure rfl rfl rfl (PureOp.move rfl) ?_
      refine SL.pure rfl rfl rfl (PureOp.len rfl Try.underlying30) ?_
      refine SL.pure rfl rfl rfl (PureOp.lss rfl rfl) ?_
      refine SL.nil_then ?_
      refine WC.cond rfl (fun h4 => ?_) (fun h4 => ?_)
      · try simp only [Bool.and_eq_true, Bool.or_eq_true, Bool.not_eq_true', Bool.not_eq_false', Bool.and_eq_false_iff, Bool.or_eq_false_iff, decide_eq_true_eq, decide_eq_false_iff_not, Int.not_lt, Int.not_le, ne_eq, Decidable.not_not] at h4
        have hpk := R.pair _ (nth_mem (l := out) (i := kk) (by omega))
        refine WC.skip ?_
        refine QX.then_ ?_
        refine WC.seq ?_
        refine WC.block ?_
        refine WC.seq ?_
        refine WC.quiet rfl (by kernel_rfl) ?_
        refine SQ.pure rfl rfl rfl (PureOp.loads (vs := [.slice aao an acap, .slice u3.ao u3.l.length u3.cap]) Try.underlying39 rfl rfl (fun _ => (RowIs.cells 0 0 2 rfl rfl)) sz39) ?_
        refine SQ.pure rfl rfl rfl (PureOp.loads (vs := [.slice fao fn fcap, .slice rao rn rcap, .slice u1.ao u1.l.length u1.cap, .slice u2.ao u2.l.length u2.cap]) Try.underlying27 rfl rfl (fun _ => (RowIs.cells 1 0 4 rfl rfl)) sz27) ?_
        refine SQ.pure rfl rfl rfl (PureOp.move rfl) ?_
        refine SQ.pure rfl rfl rfl (PureOp.move rfl) ?_
        refine SQ.pure rfl rfl rfl (PureOp.move rfl) ?_
        refine SQ.pure rfl rfl rfl (PureOp.move rfl) ?_
        refine SQ.pure rfl rfl rfl (PureOp.indexAddrN Try.underlying30 sz50 rfl rfl (AoOk.own 2 rfl) (fun _ => by omega)) ?_
        refine SQ.pure rfl rfl rfl (PureOp.indexAddrA Try.underlying50 sz3 rfl rfl (fun _ => by decide)) ?_
        refine SQ.pure rfl rfl rfl (PureOp.load (v := .int .i64 ((nth out kk).1 : Int)) Try.underlying3 rfl rfl (fun _ => (CellIs.ownc 2 rfl kk 0 (by exact cellsOf_get encNN_len _ _ _ (by omega) (by decide))))) ?_
        refine SQ.pure rfl rfl rfl (PureOp.indexAddr Try.underlying28 sz42 rfl rfl (AoOk.in_ hp) (fun _ => by omega)) ?_
        refine SQ.pure rfl rfl rfl (PureOp.loads (vs := [.int .i64 ((nth pl ((((nth out kk).1 : Int)).toNat)).1), .int .i64 ((nth pl ((((nth out kk).1 : Int)).toNat)).2.1), .int .i64 ((nth pl ((((nth out kk).1 : Int)).toNat)).2.2.1), .int .i64 ((nth pl ((((nth out kk).1 : Int)).toNat)).2.2.2)]) Try.underlying42 rfl rfl (fun _ => (RowIs.in_ hp ((((nth out kk).1 : Int)).toNat) 0 4 (by omega) (by omega))) sz42) ?_
        refine SQ.pure rfl rfl rfl (PureOp.move rfl) ?_
        refine SQ.pure rfl rfl rfl (PureOp.move rfl) ?_
        refine SQ.pure rfl rfl rfl (PureOp.move rfl) ?_
        refine SQ.pure rfl rfl rfl (PureOp.indexAddrN Try.underlying30 sz50 rfl rfl (AoOk.own 2 rfl) (fun _ => by omega)) ?_
        refine SQ.pure rfl rfl rfl (PureOp.indexAddrA Try.underlying50 sz3 rfl rfl (fun _ => by decide)) ?_
        refine SQ.pure rfl rfl rfl (PureOp.load (v := .int .i64 ((nth out kk).2 : Int)) Try.underlying3 rfl rfl (fun _ => (CellIs.ownc 2 rfl kk 1 (by exact cellsOf_get encNN_len _ _ _ (by omega) (by decide))))) ?_
        refine SQ.pure rfl rfl rfl (PureOp.indexAddr Try.underlying28 sz42 rfl rfl (AoOk.in_ hp) (fun _ => by omega)) ?_
        refine SQ.pure rfl rfl rfl (PureOp.loads (vs := [.int .i64 ((nth pl ((((nth out kk).2 : Int)).toNat)).1), .int .i64 ((nth pl ((((nth out kk).2 : Int)).toNat)).2.1), .int .i64 ((nth pl ((((nth out kk).2 : Int)).toNat)).2.2.1), .int .i64 ((nth pl ((((nth out kk).2 : Int)).toNat)).2.2.2)]) Try.underlying42 rfl rfl (fun _ => (RowIs.in_ hp ((((nth out kk).2 : Int)).toNat) 0 4 (by omega) (by omega))) sz42) ?_
        refine SQ.calle rfl rfl rfl rfl rfl rfl callable32 (fun w hw => rpair_ok u3 al aao an acap han u1 u2 fl rl rao rn rcap fao fn fcap hfn hrn w (sA.below hw.below) hab (hf.below hw.below) (hr.below hw.below) hfb hrb (fun r hr => (hcm r hr).below hw.below) wl wao wn wcap hwn (sW.below hw.below) hwb hdp (fun a ha => (hsh a ha).below hw.below) hza (nth pl (nth out kk).1) (nth pl (nth out kk).2) (fromB_iff.1 ((allK_iff _).1 hfr _ (by omega))) (fromB_iff.1 ((allK_iff _).1 hfr _ (by omega))) (hfa _ (by omega)) (hfa _ (by omega))) ?_
        refine SQ.pure rfl rfl rfl (PureOp.assign rfl) ?_
        refine SQ.nil_then ?_
        refine WC.seq ?_
        refine WC.region ?_
        refine SL.pure rfl rfl rfl (PureOp.move rfl) ?_
        refine SL.pure rfl rfl rfl (PureOp.neq rfl rfl) ?_
        refine SL.nil_then ?_
        refine WC.cond rfl (fun h5 => ?_) (fun h5 => ?_)
        · try simp only [Bool.and_eq_true, Bool.or_eq_true, Bool.not_eq_true', Bool.not_eq_false', Bool.and_eq_false_iff, Bool.or_eq_false_iff, decide_eq_true_eq, decide_eq_false_iff_not, Int.not_lt, Int.not_le, ne_eq, Decidable.not_not] at h5
          refine WC.seq ?_
          refine WC.region ?_
          refine SL.pure rfl rfl rfl (PureOp.move rfl) ?_
          refine SL.pure rfl rfl rfl (PureOp.assign rfl) ?_
          refine SL.nil_then ?_
          refine WC.ret ?_
          refine QX.ret_in ?_
          refine QX.ret_then ?_
          refine QX.ret_then ?_
          refine QX.ret_in ?_
          refine QX.ret_then ?_
          refine QX.ret1 rfl rfl ?_
          intro w hw
          (rw [stays_p (e := 0) hfr h3 hout, firstZ_at hs (by omega) (by rw [pairS_A]; exact h5)]) <;> rfl
        · try simp only [Bool.and_eq_true, Bool.or_eq_true, Bool.not_eq_true', Bool.not_eq_false', Bool.and_eq_false_iff, Bool.or_eq_false_iff, decide_eq_true_eq, decide_eq_false_iff_not, Int.not_lt, Int.not_le, ne_eq, Decidable.not_not] at h5
          refine WC.skip ?_
          refine QX.normal_in ?_
          refine QX.then_ ?_
          refine WC.region ?_
          refine SL.pure rfl rfl rfl (PureOp.move rfl) ?_
          refine SL.pure rfl rfl rfl (PureOp.addN (k := 1) rfl rfl (fun _ => by omega)) ?_
          refine SL.pure rfl rfl rfl (PureOp.assign rfl) ?_
          refine SL.nil ?_
          refine QX.round 3 (kk + 1) ⟨⟨(by first | omega | (dsimp only; omega)), firstZ_next hs (by rw [pairS_A]; exact h5)⟩, by first | omega | (dsimp only; omega)⟩ ⟨rfl, rfl, rfl, rfl, rfl, rfl, rfl, rfl, rfl, rfl, rfl, rfl, rfl, rfl, rfl, rfl, rfl, rfl, rfl, rfl, rfl, rfl, rfl, rfl, rfl, rfl, rfl, rfl, rfl, rfl, rfl, rfl, rfl, rfl, rfl, rfl, rfl, rfl, rfl, rfl, rfl, rfl, rfl, rfl, trivial⟩ rfl
      · try simp only [Bool.and_eq_true, Bool.or_eq_true, Bool.not_eq_true', Bool.not_eq_false', Bool.and_eq_false_iff, Bool.or_eq_false_iff, decide_eq_true_eq, decide_eq_false_iff_not, Int.not_lt, Int.not_le, ne_eq, Decidable.not_not] at h4
        refine WC.exit ?_
        refine QX.exit_then ?_
        refine QX.exit_then ?_
        refine QX.exit_hit ?_
        refine QX.then_ ?_
        refine WC.seq ?_
        refine WC.region ?_
        refine SL.pure rfl rfl rfl (PureOp.assign rfl) ?_
        refine SL.nil_then ?_
        refine WC.ret ?_
        refine QX.ret1 rfl rfl ?_
        intro w hw
        rw [stays_p (e := 0) hfr h3 hout, show out.length = kk from by omega, hs]

set_option maxHeartbeats 4000000 in
set_option maxRecDepth 100000 in
theorem whole_ok (pl : List Pt) (pao : Option Addr) (pn pcap : Nat) (hpn : pn = pl.length) (w0 : World) (hp : SliceIn w0 4 pao pn pcap (rowsF enc42 pl)) (hpb : pn ≤ 1000) (wao : Option Addr) (wn wcap : Nat) : FnC Try.prog 34 [.slice wao wn wcap, .slice pao pn pcap] w0 fun v w' => v = .bool (covB (wn : Int) pl) := by
  refine fnc (N := 43) Try.func34 rfl rfl rfl ?_
  refine WC.seq ?_
  refine WC.region ?_
  refine SL.pure rfl rfl rfl (PureOp.assign rfl) ?_
  refine SL.nil_then ?_
  refine WC.seq ?_
  refine WC.region ?_
  refine SL.pure rfl rfl rfl (PureOp.assign rfl) ?_
  refine SL.nil_then ?_
  refine WC.seq ?_
  refine WC.seq ?_
  refine WC.region ?_
  refine SL.pure rfl rfl rfl (PureOp.assign rfl) ?_
  refine SL.nil_then ?_
  refine WC.block ?_
  refine WC.loop (σ := Nat × Int) (fun q_ => [(0, 0, .slice wao wn wcap), (1, 0, .slice pao pn pcap), (6, 0, .int .i64 ((q_.1 : Nat) : Int)), (5, 0, .int .i64 q_.2)]) (fun q_ => []) (fun q_ => q_.1 ≤ pn ∧ covE pl q_.1 = some q_.2) (fun q_ => pn - q_.1) 0 ((0, 0)) (⟨Nat.zero_le _, rfl⟩) ⟨rfl, rfl, rfl, rfl, rfl, rfl, rfl, rfl, trivial⟩ rfl ?_
  rintro ⟨k, a⟩ ⟨hk, hs⟩
  try dsimp only at *
  refine WC.seq ?_
  refine WC.seq ?_
  refine WC.region ?_
  refine SL.pure rfl rfl rfl (PureOp.move rfl) ?_
  refine SL.pure rfl rfl rfl (PureOp.move rfl) ?_
  refine SL.pure rfl rfl rfl (PureOp.len rfl Try.underlying28) ?_
  refine SL.pure rfl rfl rfl (PureOp.lss rfl rfl) ?_
  refine SL.nil_then ?_
  refine WC.cond rfl (fun h1 => ?_) (fun h1 => ?_)
  · try simp only [Bool.and_eq_true, Bool.or_eq_true, Bool.not_eq_true', Bool.not_eq_false', Bool.and_eq_false_iff, Bool.or_eq_false_iff, decide_eq_true_eq, decide_eq_false_iff_not, Int.not_lt, Int.not_le, ne_eq, Decidable.not_not] at h1
    refine WC.skip ?_
    refine QX.then_ ?_
    refine WC.seq ?_
    refine WC.block ?_
    refine WC.seq ?_
    refine WC.seq ?_
    refine WC.region ?_
    refine SL.pure rfl rfl rfl (PureOp.move rfl) ?_
    refine SL.pure rfl rfl rfl (PureOp.move rfl) ?_
    refine SL.pure rfl rfl rfl (PureOp.indexAddrN Try.underlying28 sz42 rfl rfl (AoOk.in_ hp) (fun _ => by omega)) ?_
    refine SL.pure rfl rfl rfl (PureOp.fieldAddr 0 Try.underlying42 rfl rfl sz3 rfl) ?_
    refine SL.pure rfl rfl rfl (PureOp.load (v := .int .i64 ((nth pl k).1)) Try.underlying3 rfl rfl (fun _ => (CellIs.in_ hp k 0 (by omega) (by omega)))) ?_
    refine SL.pure rfl rfl rfl (PureOp.move rfl) ?_
    refine SL.pure rfl rfl rfl (PureOp.neq rfl rfl) ?_
    refine SL.pure rfl rfl rfl (PureOp.move rfl) ?_
    refine SL.newg 20 false rfl ?_
    refine SL.gpure (c := 1) rfl rfl rfl rfl rfl rfl rfl (PureOp.move rfl) ?_
    refine SL.gpure (c := 1) rfl rfl rfl rfl rfl rfl rfl (PureOp.move rfl) ?_
    refine SL.gpure (c := 1) rfl rfl rfl rfl rfl rfl rfl (PureOp.indexAddrN Try.underlying28 sz42 rfl rfl (AoOk.in_ hp) (by intro hg; simp [gval] at hg; omega)) ?_
    refine SL.gpure (c := 1) rfl rfl rfl rfl rfl rfl rfl (PureOp.fieldAddr 1 Try.underlying42 rfl rfl sz3 rfl) ?_
    refine SL.gpure (c := 1) rfl rfl rfl rfl rfl rfl rfl (PureOp.load (v := .int .i64 ((nth pl k).2.1)) Try.underlying3 rfl rfl (by intro hg; simp [gval] at hg; exact (CellIs.in_ hp k 1 (by omega) (by omega)))) ?_
    refine SL.gpure (c := 1) rfl rfl rfl rfl rfl rfl rfl (PureOp.move rfl) ?_
    refine SL.gpure (c := 1) rfl rfl rfl rfl rfl rfl rfl (PureOp.leq rfl rfl) ?_
    refine SL.pure rfl rfl rfl (PureOp.or_ rfl rfl rfl rfl) ?_
    refine SL.nil_then ?_
    refine WC.cond rfl (fun h2 => ?_) (fun h2 => ?_)
    · try simp only [Bool.and_eq_true, Bool.or_eq_true, Bool.not_eq_true', Bool.not_eq_false', Bool.and_eq_false_iff, Bool.or_eq_false_iff, decide_eq_true_eq, decide_eq_false_iff_not, Int.not_lt, Int.not_le, ne_eq, Decidable.not_not] at h2
      refine WC.seq ?_
      refine WC.region ?_
      refine SL.pure rfl rfl rfl (PureOp.assign rfl) ?_
      refine SL.nil_then ?_
      refine WC.ret ?_
      refine QX.ret_then ?_
      refine QX.ret_in ?_
      refine QX.ret_then ?_
      refine QX.ret_then ?_
      refine QX.ret_in ?_
      refine QX.ret_then ?_
      refine QX.ret1 rfl rfl ?_
      intro w hw
      rw [covB_bad hs (by omega) (by omega)]
    · try simp only [Bool.and_eq_true, Bool.or_eq_true, Bool.not_eq_true', Bool.not_eq_false', Bool.and_eq_false_iff, Bool.or_eq_false_iff, decide_eq_true_eq, decide_eq_false_iff_not, Int.not_lt, Int.not_le, ne_eq, Decidable.not_not] at h2
      refine WC.skip ?_
      refine QX.then_ ?_
      refine WC.region ?_
      refine SL.pure rfl rfl rfl (PureOp.move rfl) ?_
      refine SL.pure rfl rfl rfl (PureOp.move rfl) ?_
      refine SL.pure rfl rfl rfl (PureOp.indexAddrN Try.underlying28 sz42 rfl rfl (AoOk.in_ hp) (fun _ => by omega)) ?_
      refine SL.pure rfl rfl rfl (PureOp.fieldAddr 1 Try.underlying42 rfl rfl sz3 rfl) ?_
      refine SL.pure rfl rfl rfl (PureOp.load (v := .int .i64 ((nth pl k).2.1)) Try.underlying3 rfl rfl (fun _ => (CellIs.in_ hp k 1 (by omega) (by omega)))) ?_
      refine SL.pure rfl rfl rfl (PureOp.assign rfl) ?_
      refine SL.nil ?_
      refine QX.normal_in ?_
      refine QX.then_ ?_
      refine WC.region ?_
      refine SL.pure rfl rfl rfl (PureOp.move rfl) ?_
      refine SL.pure rfl rfl rfl (PureOp.addN (k := 1) rfl rfl (fun _ => by omega)) ?_
      refine SL.pure rfl rfl rfl (PureOp.assign rfl) ?_
      refine SL.nil ?_
      refine QX.round (σ := Nat × Int) (Ef := fun q_ => [(0, 0, .slice wao wn wcap), (1, 0, .slice pao pn pcap), (6, 0, .int .i64 ((q_.1 : Nat) : Int)), (5, 0, .int .i64 q_.2)]) (Hf := fun q_ => []) (I := fun q_ => q_.1 ≤ pn ∧ covE pl q_.1 = some q_.2) (μ := fun q_ => pn - q_.1) (s := (k, a)) 0 ((k + 1, (nth pl k).2.1)) ⟨⟨(by first | omega | (dsimp only; omega)), covE_next hs (by omega)⟩, by first | omega | (dsimp only; omega)⟩ ⟨rfl, rfl, rfl, rfl, rfl, rfl, rfl, rfl, trivial⟩ rfl
  · try simp only [Bool.and_eq_true, Bool.or_eq_true, Bool.not_eq_true', Bool.not_eq_false', Bool.and_eq_false_iff, Bool.or_eq_false_iff, decide_eq_true_eq, decide_eq_false_iff_not, Int.not_lt, Int.not_le, ne_eq, Decidable.not_not] at h1
    refine WC.exit ?_
    refine QX.exit_then ?_
    refine QX.exit_then ?_
    refine QX.exit_hit ?_
    refine QX.then_ ?_
    refine WC.seq ?_
    refine WC.region ?_
    refine SL.pure rfl rfl rfl (PureOp.move rfl) ?_
    refine SL.pure rfl rfl rfl (PureOp.len rfl Try.underlying28) ?_
    refine SL.pure rfl rfl rfl (PureOp.gtr rfl rfl) ?_
    refine SL.pure rfl rfl rfl (PureOp.move rfl) ?_
    refine SL.newg 37 true rfl ?_
    refine SL.gpure (c := 1) rfl rfl rfl rfl rfl rfl rfl (PureOp.move rfl) ?_
    refine SL.gpure (c := 1) rfl rfl rfl rfl rfl rfl rfl (PureOp.move rfl) ?_
    refine SL.gpure (c := 1) rfl rfl rfl rfl rfl rfl rfl (PureOp.len rfl Try.underlying45) ?_
    refine SL.gpure (c := 1) rfl rfl rfl rfl rfl rfl rfl (PureOp.eql rfl rfl) ?_
    refine SL.pure rfl rfl rfl (PureOp.and_ rfl rfl rfl rfl) ?_
    refine SL.pure rfl rfl rfl (PureOp.assign rfl) ?_
    refine SL.nil_then ?_
    refine WC.ret ?_
    refine QX.ret1 rfl rfl ?_
    intro w hw
    rw [show k = pl.length from by omega] at hs
    rw [covB_all hs, hpn]

set_option maxHeartbeats 4000000 in
set_option maxRecDepth 100000 in
theorem rcheck_ok (u3 : SliceV Unit) (al : List Ai) (aao : Option Addr) (an acap : Nat) (han : an = al.length) (u1 u2 : SliceV Unit) (fl : List Fa) (rl : List Ru) (rao : Option Addr) (rn rcap : Nat) (fao : Option Addr) (fn fcap : Nat) (hfn : fn = fl.length) (hrn : rn = rl.length) (w0 : World) (sA : SliceIn w0 5 aao an acap (rowsF enc88 al)) (hab : an ≤ 1000) (hf : SliceIn w0 9 fao fn fcap (rowsF enc52 fl)) (hr : SliceIn w0 15 rao rn rcap (rowsF enc76 rl)) (hfb : fn ≤ 1000) (hrb : rn ≤ 1000) (hcm : ∀ r ∈ rl, SliceIn w0 1 r.2.2.1.ao r.2.2.1.l.length r.2.2.1.cap (rowsF encI r.2.2.1.l)) (wl : List Wa) (wao : Option Addr) (wn wcap : Nat) (hwn : wn = wl.length) (sW : SliceIn w0 8 wao wn wcap (rowsF enc62 wl)) (hwb : wn ≤ 1000) (hdp : ∀ i, i < wn → -1099511627776 ≤ (nth wl i).1.2.2.2.2.2.1 ∧ (nth wl i).1.2.2.2.2.2.1 ≤ 1099511627776) (hsh : ∀ a ∈ al, SliceIn w0 2 a.2.2.2.2.ao a.2.2.2.2.l.length a.2.2.2.2.cap (rowsF enc133 a.2.2.2.2.l)) (hza : ∀ a ∈ al, ZnOk a.2.2.2.1 a.2.2.2.2.l a.2.2.2.2.l.length) (pl : List Pt) (pao : Option Addr) (pn pcap : Nat) (hpn : pn = pl.length) (hp : SliceIn w0 4 pao pn pcap (rowsF enc42 pl)) (hpb : pn ≤ 1000) : FnC Try.prog 17 [.agg #[.slice aao an acap, .slice u3.ao u3.l.length u3.cap], .agg #[.slice fao fn fcap, .slice rao rn rcap, .slice u1.ao u1.l.length u1.cap, .slice u2.ao u2.l.length u2.cap], .slice wao wn wcap, .slice pao pn pcap] w0 fun v w' => v = .int .i64 (chkE (covB (wn : Int) pl) (resP (allK (prF fn pl) pl.length) 19 23 pn (rdF fl pl) (mtF fl pl)).1 (mixedE (allK (prF fn pl) pl.length) pn (mixX fl rl pl)) (staysE wn (resP (allK (prF fn pl) pl.length) 19 23 pn (rdF fl pl) (mtF fl pl)) fl rl al wl pl)) := by
  refine fnc (N := 36) Try.func17 rfl rfl rfl ?_
  refine WC.seq ?_
  refine WC.region ?_
  refine SL.box rfl rfl rfl (fun b1 hb1 => ?_)
  refine SL.norm [_] rfl ?_
  refine SL.box rfl rfl rfl (fun b2 hb2 => ?_)
  refine SL.norm [_, _] rfl ?_
  refine SL.pure rfl rfl rfl (PureOp.assign rfl) ?_
  refine SL.nil_then ?_
  refine WC.seq ?_
  refine WC.seq ?_
  refine WC.region ?_
  refine SL.pure rfl rfl rfl (PureOp.move rfl) ?_
  refine SL.pure rfl rfl rfl (PureOp.move rfl) ?_
  refine SL.calle rfl rfl rfl rfl rfl rfl callable34 (fun w hw => whole_ok pl pao pn pcap hpn w (hp.below hw.below) hpb _ _ _) ?_
  refine SL.norm [_, _] rfl ?_
  refine SL.pure rfl rfl rfl (PureOp.not rfl) ?_
  refine SL.nil_then ?_
  refine WC.cond rfl (fun h1 => ?_) (fun h1 => ?_)
  · try simp only [Bool.and_eq_true, Bool.or_eq_true, Bool.not_eq_true', Bool.not_eq_false', Bool.and_eq_false_iff, Bool.or_eq_false_iff, decide_eq_true_eq, decide_eq_false_iff_not, Int.not_lt, Int.not_le, ne_eq, Decidable.not_not] at h1
    refine WC.seq ?_
    refine WC.region ?_
    refine SL.pure rfl rfl rfl (PureOp.assign rfl) ?_
    refine SL.nil_then ?_
    refine WC.ret ?_
    refine QX.ret_then ?_
    refine QX.ret1 rfl rfl ?_
    intro w hw
    rw [chkE, if_neg (by simpa using h1)]
  · try simp only [Bool.and_eq_true, Bool.or_eq_true, Bool.not_eq_true', Bool.not_eq_false', Bool.and_eq_false_iff, Bool.or_eq_false_iff, decide_eq_true_eq, decide_eq_false_iff_not, Int.not_lt, Int.not_le, ne_eq, Decidable.not_not] at h1
    refine WC.skip ?_
    refine QX.then_ ?_
    refine WC.seq ?_
    refine WC.seq ?_
    refine WC.region ?_
    refine SL.pure rfl rfl rfl (PureOp.loads (vs := [.slice fao fn fcap, .slice rao rn rcap, .slice u1.ao u1.l.length u1.cap, .slice u2.ao u2.l.length u2.cap]) Try.underlying27 rfl rfl (fun _ => (RowIs.cells 1 0 4 rfl rfl)) sz27) ?_
    refine SL.pure rfl rfl rfl (PureOp.move rfl) ?_
    refine SL.callo (fun ya yc => .tuple #[.slice ya ((resP (allK (prF fn pl) pl.length) 19 23 pn (rdF fl pl) (mtF fl pl)).2.length) yc, .int .i64 ((resP (allK (prF fn pl) pl.length) 19 23 pn (rdF fl pl) (mtF fl pl)).1)]) rfl rfl rfl rfl rfl rfl callable9 (fun w hw => rpairs_ok u1 u2 fl rao rn rcap fao fn fcap hfn w (hf.below hw.below) hfb pl pao pn pcap hpn (hp.below hw.below) hpb) (fun ya yc => ?_)
    refine SL.norm [_, _, _] rfl ?_
    refine SL.pure rfl rfl rfl (PureOp.move rfl) ?_
    refine SL.pure rfl rfl rfl (PureOp.extract rfl rfl) ?_
    refine SL.pure rfl rfl rfl (PureOp.extract rfl rfl) ?_
    refine SL.pure rfl rfl rfl (PureOp.assign rfl) ?_
    refine SL.pure rfl rfl rfl (PureOp.assign rfl) ?_
    refine SL.nil_then ?_
    refine WC.seq ?_
    refine WC.region ?_
    refine SL.pure rfl rfl rfl (PureOp.move rfl) ?_
    refine SL.pure rfl rfl rfl (PureOp.neq rfl rfl) ?_
    refine SL.nil_then ?_
    refine WC.cond rfl (fun h2 => ?_) (fun h2 => ?_)
    · try simp only [Bool.and_eq_true, Bool.or_eq_true, Bool.not_eq_true', Bool.not_eq_false', Bool.and_eq_false_iff, Bool.or_eq_false_iff, decide_eq_true_eq, decide_eq_false_iff_not, Int.not_lt, Int.not_le, ne_eq, Decidable.not_not] at h2
      refine WC.seq ?_
      refine WC.region ?_
      refine SL.pure rfl rfl rfl (PureOp.move rfl) ?_
      refine SL.pure rfl rfl rfl (PureOp.assign rfl) ?_
      refine SL.nil_then ?_
      refine WC.ret ?_
      refine QX.ret_then ?_
      refine QX.ret1 rfl rfl ?_
      intro w hw
      (rw [chkE, if_pos (by simpa using h1), if_pos (by simpa using h2)]) <;> rfl
    · try simp only [Bool.and_eq_true, Bool.or_eq_true, Bool.not_eq_true', Bool.not_eq_false', Bool.and_eq_false_iff, Bool.or_eq_false_iff, decide_eq_true_eq, decide_eq_false_iff_not, Int.not_lt, Int.not_le, ne_eq, Decidable.not_not] at h2
      refine WC.skip ?_
      refine QX.then_ ?_
      refine WC.seq ?_
      refine WC.seq ?_
      refine WC.region ?_
      refine SL.pure rfl rfl rfl (PureOp.loads (vs := [.slice fao fn fcap, .slice rao rn rcap, .slice u1.ao u1.l.length u1.cap, .slice u2.ao u2.l.length u2.cap]) Try.underlying27 rfl rfl (fun _ => (RowIs.cells 1 0 4 rfl rfl)) sz27) ?_
      refine SL.pure rfl rfl rfl (PureOp.move rfl) ?_
      refine SL.calle rfl rfl rfl rfl rfl rfl callable13 (fun w hw => rmixed_ok u1 u2 fl rl rao rn rcap fao fn fcap hfn hrn w (hf.below hw.below) (hr.below hw.below) hfb hrb (fun r hr => (hcm r hr).below hw.below) pl pao pn pcap hpn (hp.below hw.below) hpb) ?_
      refine SL.norm [_, _, _] rfl ?_
      refine SL.pure rfl rfl rfl (PureOp.assign rfl) ?_
      refine SL.nil_then ?_
      refine WC.seq ?_
      refine WC.region ?_
      refine SL.pure rfl rfl rfl (PureOp.move rfl) ?_
      refine SL.pure rfl rfl rfl (PureOp.neq rfl rfl) ?_
      refine SL.nil_then ?_
      refine WC.cond rfl (fun h3 => ?_) (fun h3 => ?_)
      · try simp only [Bool.and_eq_true, Bool.or_eq_true, Bool.not_eq_true', Bool.not_eq_false', Bool.and_eq_false_iff, Bool.or_eq_false_iff, decide_eq_true_eq, decide_eq_false_iff_not, Int.not_lt, Int.not_le, ne_eq, Decidable.not_not] at h3
        refine WC.seq ?_
        refine WC.region ?_
        refine SL.pure rfl rfl rfl (PureOp.move rfl) ?_
        refine SL.pure rfl rfl rfl (PureOp.assign rfl) ?_
        refine SL.nil_then ?_
        refine WC.ret ?_
        refine QX.ret_then ?_
        refine QX.ret1 rfl rfl ?_
        intro w hw
        (rw [chkE, if_pos (by simpa using h1), if_neg (by simpa using h2), if_pos (by simpa using h3)]) <;> rfl
      · try simp only [Bool.and_eq_true, Bool.or_eq_true, Bool.not_eq_true', Bool.not_eq_false', Bool.and_eq_false_iff, Bool.or_eq_false_iff, decide_eq_true_eq, decide_eq_false_iff_not, Int.not_lt, Int.not_le, ne_eq, Decidable.not_not] at h3
        refine WC.skip ?_
        refine QX.then_ ?_
        refine WC.seq ?_
        refine WC.region ?_
        refine SL.pure rfl rfl rfl (PureOp.loads (vs := [.slice aao an acap, .slice u3.ao u3.l.length u3.cap]) Try.underlying39 rfl rfl (fun _ => (RowIs.cells 0 0 2 rfl rfl)) sz39) ?_
        refine SL.pure rfl rfl rfl (PureOp.loads (vs := [.slice fao fn fcap, .slice rao rn rcap, .slice u1.ao u1.l.length u1.cap, .slice u2.ao u2.l.length u2.cap]) Try.underlying27 rfl rfl (fun _ => (RowIs.cells 1 0 4 rfl rfl)) sz27) ?_
        refine SL.pure rfl rfl rfl (PureOp.move rfl) ?_
        refine SL.pure rfl rfl rfl (PureOp.move rfl) ?_
        refine SL.calle rfl rfl rfl rfl rfl rfl callable15 (fun w hw => rstays_ok u3 al aao an acap han u1 u2 fl rl rao rn rcap fao fn fcap hfn hrn w (sA.below hw.below) hab (hf.below hw.below) (hr.below hw.below) hfb hrb (fun r hr => (hcm r hr).below hw.below) wl wao wn wcap hwn (sW.below hw.below) hwb hdp (fun a ha => (hsh a ha).below hw.below) hza pl pao pn pcap hpn (hp.below hw.below) hpb) ?_
        refine SL.norm [_, _, _] rfl ?_
        refine SL.pure rfl rfl rfl (PureOp.assign rfl) ?_
        refine SL.nil_then ?_
        refine WC.ret ?_
        refine QX.ret1 rfl rfl ?_
        intro w hw
        (rw [chkE, if_pos (by simpa using h1), if_neg (by simpa using h2), if_neg (by simpa using h3)]) <;> rfl

end Go.Proofs.Ytblmafknmeicfaa
