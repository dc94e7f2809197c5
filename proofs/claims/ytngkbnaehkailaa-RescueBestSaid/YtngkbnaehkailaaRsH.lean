import Derived.Test.YtngkbnaehkailaaRsG
namespace Go.Proofs.Ytngkbnaehkailaa
open Go Go.RowKit Eng
set_option linter.unusedVariables false
set_option linter.unusedSimpArgs false

theorem u64w {m : Nat} (h : m ≤ 1000000) : IntKind.u64.wrap (m : Int) = (m : Int) := by
  have : (m : Int) % 18446744073709551616 = (m : Int) := Int.emod_eq_of_lt (by omega) (by omega)
  simpa [IntKind.wrap, IntKind.signed, IntKind.bits] using this
abbrev rix (o : Int) (m : Nat) : Int := IntKind.i64.wrap ((IntKind.u64.wrap o).tmod (IntKind.u64.wrap (m : Int)))
theorem rix_bd {o : Int} {m : Nat} (h0 : 0 < m) (h1 : m ≤ 1000000) : 0 ≤ rix o m ∧ rix o m < m := by
  have hu : IntKind.u64.wrap (m : Int) = (m : Int) := by
    have : (m : Int) % 18446744073709551616 = (m : Int) := Int.emod_eq_of_lt (by omega) (by omega)
    simpa [IntKind.wrap, IntKind.signed, IntKind.bits] using this
  have hn : 0 ≤ IntKind.u64.wrap o := by
    have : 0 ≤ o % 18446744073709551616 := Int.emod_nonneg _ (by decide)
    simpa [IntKind.wrap, IntKind.signed, IntKind.bits] using this
  have h2 : 0 ≤ (IntKind.u64.wrap o).tmod (m : Int) ∧ (IntKind.u64.wrap o).tmod (m : Int) < m := by
    rw [Int.tmod_eq_emod_of_nonneg hn]
    exact ⟨Int.emod_nonneg _ (by omega), Int.emod_lt_of_pos _ (by omega)⟩
  have h3 : IntKind.i64.wrap ((IntKind.u64.wrap o).tmod (m : Int)) = (IntKind.u64.wrap o).tmod (m : Int) := by
    have h4 := IntWalk.wrap64_in ((IntKind.u64.wrap o).tmod (m : Int)) (by omega)
    rw [← IntWalk.i64_left] at h4
    exact h4
  unfold rix
  rw [hu, h3]
  exact h2
theorem plan_num {l : List Pa} {c : List Int} {P : List (SliceV Int)} (hp : PlanOk l c P) (hok : PaOk l c) {i j : Nat} (hi : i < l.length) (hj : j < (nth l i).2.2.l.length) : 0 ≤ nth (nth P i).l j ∧ nth (nth P i).l j ≤ 99 := by
  have hc := hok.cnt i hi
  have h0 := hp.pos i hi j hj
  have h1 := (sumIn_ge (x := nth l i) (p := (nth P i).l) (nth l i).2.2.l.length (fun j hj => (pn_bd hc (hp.pos i hi j hj)).1)).2 j hj
  have h2 := hp.sum i hi
  unfold pn at h1
  omega
theorem planC_rlen {P : List (SliceV Int)} {i kk : Nat} {y : Int} {rs : List FRow} {t : Nat} (h : t < P.length) : (nth (planC P i kk y rs) t).l.length = (nth P t).l.length := by
  rw [planC_nth h]; exact chgP_len
theorem planC_num {P : List (SliceV Int)} {i kk : Nat} {y : Int} {rs : List FRow} {t j : Nat} (ht : t < P.length) (hy : -1 ≤ y ∧ y ≤ 1) (hkk : kk < (nth P i).l.length) (h : 0 ≤ nth (nth P t).l j ∧ nth (nth P t).l j ≤ 99) : -1000000 ≤ nth (nth (planC P i kk y rs) t).l j ∧ nth (nth (planC P i kk y rs) t).l j ≤ 1000000 := by
  rw [planC_nth ht]
  dsimp only
  unfold chgP
  split
  · rename_i e
    subst e
    rw [nth_set hkk]
    split
    · rename_i e; subst e; omega
    · omega
  · omega
set_option maxHeartbeats 4000000 in
set_option maxRecDepth 100000 in
theorem best_bad (w0 : World) (l : List Pa) (la : Option Addr) (m lc : Nat) (hm : m = l.length) (hI : ∀ i, i < m → SliceIn w0 2 (nth l i).2.2.ao (nth l i).2.2.l.length (nth l i).2.2.cap (rowsF enc77 (nth l i).2.2.l)) (sL : SliceIn w0 3 la m lc (rowsF enc55 l)) (c : List Int) (ca : Option Addr) (q cc : Nat) (hq : q = c.length) (sC : SliceIn w0 1 ca q cc (rowsF encI c)) (o1 o2 o3 o4 : Int) (hbad : rchk l c ≠ 0) : FnC Try.prog 10 [.slice la m lc, .slice ca q cc, .agg #[.int .i64 o1, .int .i64 o2, .int .i64 o3, .int .i64 o4]] w0 fun v w' => v = .bool true := by
  refine fnc (N := 222) Try.func10 rfl rfl rfl ?_
  refine WC.seq ?_
  refine WC.region ?_
  refine SL.box rfl rfl rfl (fun b1 hb1 => ?_)
  refine SL.norm [_] rfl ?_
  refine SL.pure rfl rfl rfl (PureOp.assign rfl) ?_
  refine SL.nil_then ?_
  refine WC.seq ?_
  refine WC.seq ?_
  refine WC.region ?_
  refine SL.pure rfl rfl rfl (PureOp.move rfl) ?_
  refine SL.pure rfl rfl rfl (PureOp.move rfl) ?_
  refine SL.calle rfl rfl rfl rfl rfl rfl callable25 (fun w hw => big52_ok w l la m lc hm (fun i hi => (hI i hi).below hw.below) (sL.below hw.below) c ca q cc hq (sC.below hw.below)) ?_
  refine SL.norm [_] rfl ?_
  refine SL.nil_then ?_
  refine WC.cond rfl (fun h1 => ?_) (fun h1 => ?_)
  · try simp only [Bool.and_eq_true, Bool.or_eq_true, Bool.not_eq_true', Bool.not_eq_false', Bool.and_eq_false_iff, Bool.or_eq_false_iff, decide_eq_true_eq, decide_eq_false_iff_not, Int.not_lt, Int.not_le, ne_eq, Decidable.not_not] at h1
    refine WC.seq ?_
    refine WC.region ?_
    refine SL.calle rfl rfl rfl rfl rfl rfl callable26 (fun w hw => awake52_ok w) ?_
    refine SL.norm [_] rfl ?_
    refine SL.pure rfl rfl rfl (PureOp.assign rfl) ?_
    refine SL.nil_then ?_
    refine WC.ret ?_
    refine QX.ret_then ?_
    refine QX.ret1 rfl rfl ?_
    intro w hw
    rfl
  · try simp only [Bool.and_eq_true, Bool.or_eq_true, Bool.not_eq_true', Bool.not_eq_false', Bool.and_eq_false_iff, Bool.or_eq_false_iff, decide_eq_true_eq, decide_eq_false_iff_not, Int.not_lt, Int.not_le, ne_eq, Decidable.not_not] at h1
    refine WC.skip ?_
    refine QX.then_ ?_
    refine WC.seq ?_
    refine WC.region ?_
    refine SL.pure rfl rfl rfl (PureOp.move rfl) ?_
    refine SL.pure rfl rfl rfl (PureOp.move rfl) ?_
    refine SL.calle rfl rfl rfl rfl rfl rfl callable31 (fun w hw => psolve52_bad w l la m lc hm (fun i hi => (hI i hi).below hw.below) (sL.below hw.below) c ca q cc hq (sC.below hw.below) hbad) ?_
    refine SL.norm [_] rfl ?_
    refine SL.pure rfl rfl rfl (PureOp.move rfl) ?_
    refine SL.pure rfl rfl rfl (PureOp.extract rfl rfl) ?_
    refine SL.pure rfl rfl rfl (PureOp.extract rfl rfl) ?_
    refine SL.pure rfl rfl rfl (PureOp.assign rfl) ?_
    refine SL.pure rfl rfl rfl (PureOp.assign rfl) ?_
    refine SL.nil_then ?_
    refine WC.seq ?_
    refine WC.seq ?_
    refine WC.region ?_
    refine SL.pure rfl rfl rfl (PureOp.move rfl) ?_
    refine SL.pure rfl rfl rfl (PureOp.neq rfl rfl) ?_
    refine SL.lit 33 true rfl (decide_eq_true hbad) ?_
    refine SL.pure rfl rfl rfl (PureOp.move rfl) ?_
    refine SL.off rfl rfl rfl rfl rfl rfl ?_
    refine SL.off rfl rfl rfl rfl rfl rfl ?_
    refine SL.off rfl rfl rfl rfl rfl rfl ?_
    refine SL.pure rfl rfl rfl (PureOp.pickT rfl rfl) ?_
    refine SL.nil_then ?_
    refine WC.condT rfl ?_
    refine WC.seq ?_
    refine WC.region ?_
    refine SL.calle rfl rfl rfl rfl rfl rfl callable26 (fun w hw => awake52_ok w) ?_
    refine SL.norm [_] rfl ?_
    refine SL.pure rfl rfl rfl (PureOp.assign rfl) ?_
    refine SL.nil_then ?_
    refine WC.ret ?_
    refine QX.ret_then ?_
    refine QX.ret1 rfl rfl ?_
    intro w hw
    rfl

set_option maxHeartbeats 4000000 in
set_option maxRecDepth 100000 in
theorem best_ok (w0 : World) (l : List Pa) (la : Option Addr) (m lc : Nat) (hm : m = l.length) (hI : ∀ i, i < m → SliceIn w0 2 (nth l i).2.2.ao (nth l i).2.2.l.length (nth l i).2.2.cap (rowsF enc77 (nth l i).2.2.l)) (sL : SliceIn w0 3 la m lc (rowsF enc55 l)) (c : List Int) (ca : Option Addr) (q cc : Nat) (hq : q = c.length) (sC : SliceIn w0 1 ca q cc (rowsF encI c)) (o1 o2 o3 o4 : Int) (hok : rchk l c = 0) (hS : wayS l m ≤ 1024) (K0 : Nat) (R : List Int × Int × Int) (hR : slv (edO m q l c m) ((m : Int) + (q : Int) + 1 + 1).toNat 0 ((m : Int) + (q : Int) + 1) (peoT l m) K0 (List.replicate (edO m q l c m).length 0) 0 0 = some R) (hB : Best (edO m q l c m) (m + q + 2) 0 (m + q + 1) (peoT l m) R) : FnC Try.prog 10 [.slice la m lc, .slice ca q cc, .agg #[.int .i64 o1, .int .i64 o2, .int .i64 o3, .int .i64 o4]] w0 fun v w' => v = .bool true := by
  have hmB : (m : Int) ≤ 9223372036854775807 := by
    have h1 := sL.le; have h2 := sL.max; simp only [maxLen] at h2; omega
  have hIb : ∀ i, i < m → ((nth l i).2.2.l.length : Int) ≤ 9223372036854775807 := fun i hi => by
    have h1 := (hI i hi).le; have h2 := (hI i hi).max; simp only [maxLen] at h2; omega
  have hOk := PaOk.of hok
  have hnl := hOk.nl
  have hRl : R.1.length = m + q + wayS l m := by rw [hB.feas.len, edO_len]
  refine fnc (N := 222) Try.func10 rfl rfl rfl ?_
  refine WC.seq ?_
  refine WC.region ?_
  refine SL.box rfl rfl rfl (fun b1 hb1 => ?_)
  refine SL.norm [_] rfl ?_
  refine SL.pure rfl rfl rfl (PureOp.assign rfl) ?_
  refine SL.nil_then ?_
  refine WC.seq ?_
  refine WC.seq ?_
  refine WC.region ?_
  refine SL.pure rfl rfl rfl (PureOp.move rfl) ?_
  refine SL.pure rfl rfl rfl (PureOp.move rfl) ?_
  refine SL.calle rfl rfl rfl rfl rfl rfl callable25 (fun w hw => big52_ok w l la m lc hm (fun i hi => (hI i hi).below hw.below) (sL.below hw.below) c ca q cc hq (sC.below hw.below)) ?_
  refine SL.norm [_] rfl ?_
  refine SL.nil_then ?_
  refine WC.cond rfl (fun h1 => ?_) (fun h1 => ?_)
  · try simp only [Bool.and_eq_true, Bool.or_eq_true, Bool.not_eq_true', Bool.not_eq_false', Bool.and_eq_false_iff, Bool.or_eq_false_iff, decide_eq_true_eq, decide_eq_false_iff_not, Int.not_lt, Int.not_le, ne_eq, Decidable.not_not] at h1
    refine WC.seq ?_
    refine WC.region ?_
    refine SL.calle rfl rfl rfl rfl rfl rfl callable26 (fun w hw => awake52_ok w) ?_
    refine SL.norm [_] rfl ?_
    refine SL.pure rfl rfl rfl (PureOp.assign rfl) ?_
    refine SL.nil_then ?_
    refine WC.ret ?_
    refine QX.ret_then ?_
    refine QX.ret1 rfl rfl ?_
    intro w hw
    first | rfl | exact absurd trivial h4 | (rw [hPl _ (by omega), hPl _ (by omega)]; simp)
  · try simp only [Bool.and_eq_true, Bool.or_eq_true, Bool.not_eq_true', Bool.not_eq_false', Bool.and_eq_false_iff, Bool.or_eq_false_iff, decide_eq_true_eq, decide_eq_false_iff_not, Int.not_lt, Int.not_le, ne_eq, Decidable.not_not] at h1
    refine WC.skip ?_
    refine QX.then_ ?_
    refine WC.seq ?_
    refine WC.region ?_
    refine SL.pure rfl rfl rfl (PureOp.move rfl) ?_
    refine SL.pure rfl rfl rfl (PureOp.move rfl) ?_
    refine SL.callo2 (σ := Option Addr × Nat × List (SliceV Int) × Option Addr × Nat) (fun y => .tuple #[.slice y.2.2.2.1 m y.2.2.2.2, .int .i64 0]) (fun y => PlanIs y.1 (m + q + wayS l m) y.2.1 R.1 l (m + q) m y.2.2.1) (fun y => y.2.2.2.1) (fun y => y.1) (fun y => y.2.2.2.2) (fun y => y.2.1) m (m + q + wayS l m) 29 3 1 1 (fun y => cellsOf encSl y.2.2.1) (fun _ => cellsOf encI R.1) rfl rfl rfl rfl rfl rfl callable31 (fun w hw => psolve52_f w l la m lc hm (fun i hi => (hI i hi).below hw.below) (sL.below hw.below) c ca q cc hq (sC.below hw.below) hok hS K0 R hR) ?_
    rintro ⟨fa, fc, P, pa, pc⟩ hP
    have hPl : ∀ t, t < m → (nth P t).l.length = (nth l t).2.2.l.length := fun t ht => by rw [hP.row t ht]; exact chunkS_len ht (by rw [hRl]; exact Nat.le_refl _)
    have hpo : PlanOk l c P := (rval_ok (plan_is hok hm hq hB hP)).1.2
    have hpm : P.length = m := hP.len
    refine SL.norm [_, _] rfl ?_
    refine SL.pure rfl rfl rfl (PureOp.move rfl) ?_
    refine SL.pure rfl rfl rfl (PureOp.extract rfl rfl) ?_
    refine SL.pure rfl rfl rfl (PureOp.extract rfl rfl) ?_
    refine SL.pure rfl rfl rfl (PureOp.assign rfl) ?_
    refine SL.pure rfl rfl rfl (PureOp.assign rfl) ?_
    refine SL.nil_then ?_
    refine WC.seq ?_
    refine WC.seq ?_
    refine WC.region ?_
    refine SL.pure rfl rfl rfl (PureOp.move rfl) ?_
    refine SL.pure rfl rfl rfl (PureOp.neq rfl rfl) ?_
    refine SL.lit 33 false rfl (by decide) ?_
    refine SL.pure rfl rfl rfl (PureOp.move rfl) ?_
    refine SL.ung rfl rfl rfl rfl ?_
    refine SL.pure rfl rfl rfl (PureOp.move rfl) ?_
    refine SL.ung rfl rfl rfl rfl ?_
    refine SL.pure rfl rfl rfl (PureOp.len rfl Try.underlying43) ?_
    refine SL.ung rfl rfl rfl rfl ?_
    refine SL.pure rfl rfl rfl (PureOp.eql rfl rfl) ?_
    refine SL.pure rfl rfl rfl (PureOp.pickF rfl rfl) ?_
    refine SL.nil_then ?_
    refine WC.cond rfl (fun h2 => ?_) (fun h2 => ?_)
    · try simp only [Bool.and_eq_true, Bool.or_eq_true, Bool.not_eq_true', Bool.not_eq_false', Bool.and_eq_false_iff, Bool.or_eq_false_iff, decide_eq_true_eq, decide_eq_false_iff_not, Int.not_lt, Int.not_le, ne_eq, Decidable.not_not] at h2
      refine WC.seq ?_
      refine WC.region ?_
      refine SL.calle rfl rfl rfl rfl rfl rfl callable26 (fun w hw => awake52_ok w) ?_
      refine SL.norm [_, _] rfl ?_
      refine SL.pure rfl rfl rfl (PureOp.assign rfl) ?_
      refine SL.nil_then ?_
      refine WC.ret ?_
      refine QX.ret_then ?_
      refine QX.ret1 rfl rfl ?_
      intro w hw
      first | rfl | exact absurd trivial h4 | (rw [hPl _ (by omega), hPl _ (by omega)]; simp)
    · try simp only [Bool.and_eq_true, Bool.or_eq_true, Bool.not_eq_true', Bool.not_eq_false', Bool.and_eq_false_iff, Bool.or_eq_false_iff, decide_eq_true_eq, decide_eq_false_iff_not, Int.not_lt, Int.not_le, ne_eq, Decidable.not_not] at h2
      have huw := u64w (m := m) (by omega)
      have hra := rix_bd (o := o1) (m := m) (by omega) (by omega)
      have hrb := rix_bd (o := o2) (m := m) (by omega) (by omega)
      have hwa := wayS_at (l := l) (i := (rix o1 m).toNat) (n := m) (by omega)
      have hwb := wayS_at (l := l) (i := (rix o2 m).toNat) (n := m) (by omega)
      refine WC.skip ?_
      refine QX.then_ ?_
      refine WC.seq ?_
      refine WC.quiet rfl (by kernel_rfl) ?_
      refine SQ.pure rfl rfl rfl (PureOp.indexAddrA Try.underlying49 sz3 rfl rfl (fun _ => by decide)) ?_
      refine SQ.pure rfl rfl rfl (PureOp.load (v := .int .i64 o1) Try.underlying3 rfl rfl (fun _ => (CellIs.cells 0 rfl rfl))) ?_
      refine SQ.pure rfl rfl rfl (PureOp.conv rfl Try.underlying3 Try.underlying52) ?_
      refine SQ.pure rfl rfl rfl (PureOp.move rfl) ?_
      refine SQ.pure rfl rfl rfl (PureOp.len rfl Try.underlying43) ?_
      refine SQ.pure rfl rfl rfl (PureOp.conv rfl Try.underlying3 Try.underlying52) ?_
      refine SQ.pure rfl rfl rfl (PureOp.rem rfl rfl (fun _ => by omega)) ?_
      refine SQ.pure rfl rfl rfl (PureOp.conv rfl Try.underlying52 Try.underlying3) ?_
      refine SQ.pure rfl rfl rfl (PureOp.indexAddrA Try.underlying49 sz3 rfl rfl (fun _ => by decide)) ?_
      refine SQ.pure rfl rfl rfl (PureOp.load (v := .int .i64 o2) Try.underlying3 rfl rfl (fun _ => (CellIs.cells 0 rfl rfl))) ?_
      refine SQ.pure rfl rfl rfl (PureOp.conv rfl Try.underlying3 Try.underlying52) ?_
      refine SQ.pure rfl rfl rfl (PureOp.move rfl) ?_
      refine SQ.pure rfl rfl rfl (PureOp.len rfl Try.underlying43) ?_
      refine SQ.pure rfl rfl rfl (PureOp.conv rfl Try.underlying3 Try.underlying52) ?_
      refine SQ.pure rfl rfl rfl (PureOp.rem rfl rfl (fun _ => by omega)) ?_
      refine SQ.pure rfl rfl rfl (PureOp.conv rfl Try.underlying52 Try.underlying3) ?_
      refine SQ.pure rfl rfl rfl (PureOp.assign rfl) ?_
      refine SQ.pure rfl rfl rfl (PureOp.assign rfl) ?_
      refine SQ.nil_then ?_
      refine WC.seq ?_
      refine WC.seq ?_
      refine WC.quiet rfl (by kernel_rfl) ?_
      refine SQ.pure rfl rfl rfl (PureOp.move rfl) ?_
      refine SQ.pure rfl rfl rfl (PureOp.move rfl) ?_
      refine SQ.pure rfl rfl rfl (PureOp.indexAddr Try.underlying43 sz55 rfl rfl (AoOk.in_ sL) (fun _ => by omega)) ?_
      refine SQ.pure rfl rfl rfl (PureOp.fieldAddr 2 Try.underlying55 rfl rfl sz53 rfl) ?_
      refine SQ.pure rfl rfl rfl (PureOp.load (v := .slice ((nth l ((rix o1 m).toNat)).2.2.ao) ((nth l ((rix o1 m).toNat)).2.2.l.length) ((nth l ((rix o1 m).toNat)).2.2.cap)) Try.underlying53 rfl rfl (fun _ => (CellIs.in_ sL ((rix o1 m).toNat) 2 (by omega) (by omega)))) ?_
      refine SQ.pure rfl rfl rfl (PureOp.len rfl Try.underlying53) ?_
      refine SQ.pure rfl rfl rfl (PureOp.eql rfl rfl) ?_
      refine SQ.pure rfl rfl rfl (PureOp.move rfl) ?_
      refine SQ.newg 63 false rfl ?_
      refine SQ.gpure (c := 1) rfl rfl rfl rfl rfl rfl rfl (PureOp.move rfl) ?_
      refine SQ.gpure (c := 1) rfl rfl rfl rfl rfl rfl rfl (PureOp.move rfl) ?_
      refine SQ.gpure (c := 1) rfl rfl rfl rfl rfl rfl rfl (PureOp.indexAddr Try.underlying43 sz55 rfl rfl (AoOk.in_ sL) (by intro hg; simp [gval] at hg; omega)) ?_
      refine SQ.gpure (c := 1) rfl rfl rfl rfl rfl rfl rfl (PureOp.fieldAddr 2 Try.underlying55 rfl rfl sz53 rfl) ?_
      refine SQ.gpure (c := 1) rfl rfl rfl rfl rfl rfl rfl (PureOp.load (v := .slice ((nth l ((rix o2 m).toNat)).2.2.ao) ((nth l ((rix o2 m).toNat)).2.2.l.length) ((nth l ((rix o2 m).toNat)).2.2.cap)) Try.underlying53 rfl rfl (by intro hg; simp [gval] at hg; exact (CellIs.in_ sL ((rix o2 m).toNat) 2 (by omega) (by omega)))) ?_
      refine SQ.gpure (c := 1) rfl rfl rfl rfl rfl rfl rfl (PureOp.len rfl Try.underlying53) ?_
      refine SQ.gpure (c := 1) rfl rfl rfl rfl rfl rfl rfl (PureOp.eql rfl rfl) ?_
      refine SQ.pure rfl rfl rfl (PureOp.or_ rfl rfl rfl rfl) ?_
      refine SQ.pure rfl rfl rfl (PureOp.move rfl) ?_
      refine SQ.newg 72 false rfl ?_
      refine SQ.gpure (c := 2) rfl rfl rfl rfl rfl rfl rfl (PureOp.move rfl) ?_
      refine SQ.gpure (c := 2) rfl rfl rfl rfl rfl rfl rfl (PureOp.len rfl Try.underlying44) ?_
      refine SQ.gpure (c := 2) rfl rfl rfl rfl rfl rfl rfl (PureOp.move rfl) ?_
      refine SQ.gpure (c := 2) rfl rfl rfl rfl rfl rfl rfl (PureOp.len rfl Try.underlying43) ?_
      refine SQ.gpure (c := 2) rfl rfl rfl rfl rfl rfl rfl (PureOp.neq rfl rfl) ?_
      refine SQ.pure rfl rfl rfl (PureOp.or_ rfl rfl rfl rfl) ?_
      refine SQ.pure rfl rfl rfl (PureOp.move rfl) ?_
      refine SQ.newg 79 false rfl ?_
      refine SQ.gpure (c := 3) rfl rfl rfl rfl rfl rfl rfl (PureOp.move rfl) ?_
      refine SQ.gpure (c := 3) rfl rfl rfl rfl rfl rfl rfl (PureOp.move rfl) ?_
      refine SQ.gpure (c := 3) rfl rfl rfl rfl rfl rfl rfl (PureOp.indexAddr Try.underlying44 sz29 rfl rfl (AoOk.any (fun w hw => SliceIn.rows (l := P) (both1 hw 1 rfl) encSl_len (by rw [hP.len]; exact Nat.le_refl _))) (by intro hg; simp [gval] at hg; omega)) ?_
      refine SQ.gpure (c := 3) rfl rfl rfl rfl rfl rfl rfl (PureOp.load (v := .slice ((nth P ((rix o1 m).toNat)).ao) ((nth P ((rix o1 m).toNat)).l.length) ((nth P ((rix o1 m).toNat)).cap)) Try.underlying29 rfl rfl (by intro hg; simp [gval] at hg; exact (CellIs.any (fun w hw => SliceIn.rows (l := P) (both1 hw 1 rfl) encSl_len (by rw [hP.len]; exact Nat.le_refl _)) ((rix o1 m).toNat) 0 (by omega) (by omega)))) ?_
      refine SQ.gpure (c := 3) rfl rfl rfl rfl rfl rfl rfl (PureOp.len rfl Try.underlying29) ?_
      refine SQ.gpure (c := 3) rfl rfl rfl rfl rfl rfl rfl (PureOp.move rfl) ?_
      refine SQ.gpure (c := 3) rfl rfl rfl rfl rfl rfl rfl (PureOp.move rfl) ?_
      refine SQ.gpure (c := 3) rfl rfl rfl rfl rfl rfl rfl (PureOp.indexAddr Try.underlying43 sz55 rfl rfl (AoOk.in_ sL) (by intro hg; simp [gval] at hg; omega)) ?_
      refine SQ.gpure (c := 3) rfl rfl rfl rfl rfl rfl rfl (PureOp.fieldAddr 2 Try.underlying55 rfl rfl sz53 rfl) ?_
      refine SQ.gpure (c := 3) rfl rfl rfl rfl rfl rfl rfl (PureOp.load (v := .slice ((nth l ((rix o1 m).toNat)).2.2.ao) ((nth l ((rix o1 m).toNat)).2.2.l.length) ((nth l ((rix o1 m).toNat)).2.2.cap)) Try.underlying53 rfl rfl (by intro hg; simp [gval] at hg; exact (CellIs.in_ sL ((rix o1 m).toNat) 2 (by omega) (by omega)))) ?_
      refine SQ.gpure (c := 3) rfl rfl rfl rfl rfl rfl rfl (PureOp.len rfl Try.underlying53) ?_
      refine SQ.gpure (c := 3) rfl rfl rfl rfl rfl rfl rfl (PureOp.neq rfl rfl) ?_
      refine SQ.pure rfl rfl rfl (PureOp.or_ rfl rfl rfl rfl) ?_
      refine SQ.pure rfl rfl rfl (PureOp.move rfl) ?_
      refine SQ.newg 93 false rfl ?_
      refine SQ.gpure (c := 4) rfl rfl rfl rfl rfl rfl rfl (PureOp.move rfl) ?_
      refine SQ.gpure (c := 4) rfl rfl rfl rfl rfl rfl rfl (PureOp.move rfl) ?_
      refine SQ.gpure (c := 4) rfl rfl rfl rfl rfl rfl rfl (PureOp.indexAddr Try.underlying44 sz29 rfl rfl (AoOk.any (fun w hw => SliceIn.rows (l := P) (both1 hw 1 rfl) encSl_len (by rw [hP.len]; exact Nat.le_refl _))) (by intro hg; simp [gval] at hg; omega)) ?_
      refine SQ.gpure (c := 4) rfl rfl rfl rfl rfl rfl rfl (PureOp.load (v := .slice ((nth P ((rix o2 m).toNat)).ao) ((nth P ((rix o2 m).toNat)).l.length) ((nth P ((rix o2 m).toNat)).cap)) Try.underlying29 rfl rfl (by intro hg; simp [gval] at hg; exact (CellIs.any (fun w hw => SliceIn.rows (l := P) (both1 hw 1 rfl) encSl_len (by rw [hP.len]; exact Nat.le_refl _)) ((rix o2 m).toNat) 0 (by omega) (by omega)))) ?_
      refine SQ.gpure (c := 4) rfl rfl rfl rfl rfl rfl rfl (PureOp.len rfl Try.underlying29) ?_
      refine SQ.gpure (c := 4) rfl rfl rfl rfl rfl rfl rfl (PureOp.move rfl) ?_
      refine SQ.gpure (c := 4) rfl rfl rfl rfl rfl rfl rfl (PureOp.move rfl) ?_
      refine SQ.gpure (c := 4) rfl rfl rfl rfl rfl rfl rfl (PureOp.indexAddr Try.underlying43 sz55 rfl rfl (AoOk.in_ sL) (by intro hg; simp [gval] at hg; omega)) ?_
      refine SQ.gpure (c := 4) rfl rfl rfl rfl rfl rfl rfl (PureOp.fieldAddr 2 Try.underlying55 rfl rfl sz53 rfl) ?_
      refine SQ.gpure (c := 4) rfl rfl rfl rfl rfl rfl rfl (PureOp.load (v := .slice ((nth l ((rix o2 m).toNat)).2.2.ao) ((nth l ((rix o2 m).toNat)).2.2.l.length) ((nth l ((rix o2 m).toNat)).2.2.cap)) Try.underlying53 rfl rfl (by intro hg; simp [gval] at hg; exact (CellIs.in_ sL ((rix o2 m).toNat) 2 (by omega) (by omega)))) ?_
      refine SQ.gpure (c := 4) rfl rfl rfl rfl rfl rfl rfl (PureOp.len rfl Try.underlying53) ?_
      refine SQ.gpure (c := 4) rfl rfl rfl rfl rfl rfl rfl (PureOp.neq rfl rfl) ?_
      refine SQ.pure rfl rfl rfl (PureOp.or_ rfl rfl rfl rfl) ?_
      refine SQ.nil_then ?_
      refine WC.cond rfl (fun h3 => ?_) (fun h3 => ?_)
      · try simp only [Bool.and_eq_true, Bool.or_eq_true, Bool.not_eq_true', Bool.not_eq_false', Bool.and_eq_false_iff, Bool.or_eq_false_iff, decide_eq_true_eq, decide_eq_false_iff_not, Int.not_lt, Int.not_le, ne_eq, Decidable.not_not] at h3
        refine WC.seq ?_
        refine WC.quiet rfl (by kernel_rfl) ?_
        refine SQ.pure rfl rfl rfl (PureOp.move rfl) ?_
        refine SQ.pure rfl rfl rfl (PureOp.len rfl Try.underlying44) ?_
        refine SQ.pure rfl rfl rfl (PureOp.move rfl) ?_
        refine SQ.pure rfl rfl rfl (PureOp.len rfl Try.underlying43) ?_
        refine SQ.pure rfl rfl rfl (PureOp.eql rfl rfl) ?_
        refine SQ.pure rfl rfl rfl (PureOp.move rfl) ?_
        refine SQ.newg 112 true rfl ?_
        refine SQ.gpure (c := 5) rfl rfl rfl rfl rfl rfl rfl (PureOp.move rfl) ?_
        refine SQ.gpure (c := 5) rfl rfl rfl rfl rfl rfl rfl (PureOp.move rfl) ?_
        refine SQ.gpure (c := 5) rfl rfl rfl rfl rfl rfl rfl (PureOp.indexAddr Try.underlying44 sz29 rfl rfl (AoOk.any (fun w hw => SliceIn.rows (l := P) (both1 hw 1 rfl) encSl_len (by rw [hP.len]; exact Nat.le_refl _))) (by intro hg; simp [gval] at hg; omega)) ?_
        refine SQ.gpure (c := 5) rfl rfl rfl rfl rfl rfl rfl (PureOp.load (v := .slice ((nth P ((rix o1 m).toNat)).ao) ((nth P ((rix o1 m).toNat)).l.length) ((nth P ((rix o1 m).toNat)).cap)) Try.underlying29 rfl rfl (by intro hg; simp [gval] at hg; exact (CellIs.any (fun w hw => SliceIn.rows (l := P) (both1 hw 1 rfl) encSl_len (by rw [hP.len]; exact Nat.le_refl _)) ((rix o1 m).toNat) 0 (by omega) (by omega)))) ?_
        refine SQ.gpure (c := 5) rfl rfl rfl rfl rfl rfl rfl (PureOp.len rfl Try.underlying29) ?_
        refine SQ.gpure (c := 5) rfl rfl rfl rfl rfl rfl rfl (PureOp.move rfl) ?_
        refine SQ.gpure (c := 5) rfl rfl rfl rfl rfl rfl rfl (PureOp.move rfl) ?_
        refine SQ.gpure (c := 5) rfl rfl rfl rfl rfl rfl rfl (PureOp.indexAddr Try.underlying43 sz55 rfl rfl (AoOk.in_ sL) (by intro hg; simp [gval] at hg; omega)) ?_
        refine SQ.gpure (c := 5) rfl rfl rfl rfl rfl rfl rfl (PureOp.fieldAddr 2 Try.underlying55 rfl rfl sz53 rfl) ?_
        refine SQ.gpure (c := 5) rfl rfl rfl rfl rfl rfl rfl (PureOp.load (v := .slice ((nth l ((rix o1 m).toNat)).2.2.ao) ((nth l ((rix o1 m).toNat)).2.2.l.length) ((nth l ((rix o1 m).toNat)).2.2.cap)) Try.underlying53 rfl rfl (by intro hg; simp [gval] at hg; exact (CellIs.in_ sL ((rix o1 m).toNat) 2 (by omega) (by omega)))) ?_
        refine SQ.gpure (c := 5) rfl rfl rfl rfl rfl rfl rfl (PureOp.len rfl Try.underlying53) ?_
        refine SQ.gpure (c := 5) rfl rfl rfl rfl rfl rfl rfl (PureOp.eql rfl rfl) ?_
        refine SQ.pure rfl rfl rfl (PureOp.and_ rfl rfl rfl rfl) ?_
        refine SQ.pure rfl rfl rfl (PureOp.move rfl) ?_
        refine SQ.newg 126 true rfl ?_
        refine SQ.gpure (c := 6) rfl rfl rfl rfl rfl rfl rfl (PureOp.move rfl) ?_
        refine SQ.gpure (c := 6) rfl rfl rfl rfl rfl rfl rfl (PureOp.move rfl) ?_
        refine SQ.gpure (c := 6) rfl rfl rfl rfl rfl rfl rfl (PureOp.indexAddr Try.underlying44 sz29 rfl rfl (AoOk.any (fun w hw => SliceIn.rows (l := P) (both1 hw 1 rfl) encSl_len (by rw [hP.len]; exact Nat.le_refl _))) (by intro hg; simp [gval] at hg; omega)) ?_
        refine SQ.gpure (c := 6) rfl rfl rfl rfl rfl rfl rfl (PureOp.load (v := .slice ((nth P ((rix o2 m).toNat)).ao) ((nth P ((rix o2 m).toNat)).l.length) ((nth P ((rix o2 m).toNat)).cap)) Try.underlying29 rfl rfl (by intro hg; simp [gval] at hg; exact (CellIs.any (fun w hw => SliceIn.rows (l := P) (both1 hw 1 rfl) encSl_len (by rw [hP.len]; exact Nat.le_refl _)) ((rix o2 m).toNat) 0 (by omega) (by omega)))) ?_
        refine SQ.gpure (c := 6) rfl rfl rfl rfl rfl rfl rfl (PureOp.len rfl Try.underlying29) ?_
        refine SQ.gpure (c := 6) rfl rfl rfl rfl rfl rfl rfl (PureOp.move rfl) ?_
        refine SQ.gpure (c := 6) rfl rfl rfl rfl rfl rfl rfl (PureOp.move rfl) ?_
        refine SQ.gpure (c := 6) rfl rfl rfl rfl rfl rfl rfl (PureOp.indexAddr Try.underlying43 sz55 rfl rfl (AoOk.in_ sL) (by intro hg; simp [gval] at hg; omega)) ?_
        refine SQ.gpure (c := 6) rfl rfl rfl rfl rfl rfl rfl (PureOp.fieldAddr 2 Try.underlying55 rfl rfl sz53 rfl) ?_
        refine SQ.gpure (c := 6) rfl rfl rfl rfl rfl rfl rfl (PureOp.load (v := .slice ((nth l ((rix o2 m).toNat)).2.2.ao) ((nth l ((rix o2 m).toNat)).2.2.l.length) ((nth l ((rix o2 m).toNat)).2.2.cap)) Try.underlying53 rfl rfl (by intro hg; simp [gval] at hg; exact (CellIs.in_ sL ((rix o2 m).toNat) 2 (by omega) (by omega)))) ?_
        refine SQ.gpure (c := 6) rfl rfl rfl rfl rfl rfl rfl (PureOp.len rfl Try.underlying53) ?_
        refine SQ.gpure (c := 6) rfl rfl rfl rfl rfl rfl rfl (PureOp.eql rfl rfl) ?_
        refine SQ.pure rfl rfl rfl (PureOp.and_ rfl rfl rfl rfl) ?_
        refine SQ.pure rfl rfl rfl (PureOp.move rfl) ?_
        refine SQ.newg 140 true rfl ?_
        refine SQ.gcalle (c := 7) rfl rfl rfl rfl rfl rfl rfl rfl rfl rfl callable26 (by intro hg; simp [gval] at hg; exact (fun w hw => awake52_ok w)) ?_
        refine SQ.pure rfl rfl rfl (PureOp.and_ rfl rfl rfl rfl) ?_
        refine SQ.pure rfl rfl rfl (PureOp.assign rfl) ?_
        refine SQ.nil_then ?_
        refine WC.ret ?_
        refine QX.ret_then ?_
        refine QX.ret1 rfl rfl ?_
        intro w hw
        first | rfl | exact absurd trivial h4 | (rw [hPl _ (by omega), hPl _ (by omega)]; simp)
      · try simp only [Bool.and_eq_true, Bool.or_eq_true, Bool.not_eq_true', Bool.not_eq_false', Bool.and_eq_false_iff, Bool.or_eq_false_iff, decide_eq_true_eq, decide_eq_false_iff_not, Int.not_lt, Int.not_le, ne_eq, Decidable.not_not] at h3
        have huA := u64w (m := (nth l (rix o1 m).toNat).2.2.l.length) (by omega)
        have huB := u64w (m := (nth l (rix o2 m).toNat).2.2.l.length) (by omega)
        have haa := rix_bd (o := o3) (m := (nth l (rix o1 m).toNat).2.2.l.length) (by omega) (by omega)
        have hbb := rix_bd (o := o4) (m := (nth l (rix o2 m).toNat).2.2.l.length) (by omega) (by omega)
        refine WC.skip ?_
        refine QX.then_ ?_
        refine WC.seq ?_
        refine WC.quiet rfl (by kernel_rfl) ?_
        refine SQ.pure rfl rfl rfl (PureOp.indexAddrA Try.underlying49 sz3 rfl rfl (fun _ => by decide)) ?_
        refine SQ.pure rfl rfl rfl (PureOp.load (v := .int .i64 o3) Try.underlying3 rfl rfl (fun _ => (CellIs.cells 0 rfl rfl))) ?_
        refine SQ.pure rfl rfl rfl (PureOp.conv rfl Try.underlying3 Try.underlying52) ?_
        refine SQ.pure rfl rfl rfl (PureOp.move rfl) ?_
        refine SQ.pure rfl rfl rfl (PureOp.move rfl) ?_
        refine SQ.pure rfl rfl rfl (PureOp.indexAddr Try.underlying43 sz55 rfl rfl (AoOk.in_ sL) (fun _ => by omega)) ?_
        refine SQ.pure rfl rfl rfl (PureOp.fieldAddr 2 Try.underlying55 rfl rfl sz53 rfl) ?_
        refine SQ.pure rfl rfl rfl (PureOp.load (v := .slice ((nth l ((rix o1 m).toNat)).2.2.ao) ((nth l ((rix o1 m).toNat)).2.2.l.length) ((nth l ((rix o1 m).toNat)).2.2.cap)) Try.underlying53 rfl rfl (fun _ => (CellIs.in_ sL ((rix o1 m).toNat) 2 (by omega) (by omega)))) ?_
        refine SQ.pure rfl rfl rfl (PureOp.len rfl Try.underlying53) ?_
        refine SQ.pure rfl rfl rfl (PureOp.conv rfl Try.underlying3 Try.underlying52) ?_
        refine SQ.pure rfl rfl rfl (PureOp.rem rfl rfl (fun _ => by omega)) ?_
        refine SQ.pure rfl rfl rfl (PureOp.conv rfl Try.underlying52 Try.underlying3) ?_
        refine SQ.pure rfl rfl rfl (PureOp.indexAddrA Try.underlying49 sz3 rfl rfl (fun _ => by decide)) ?_
        refine SQ.pure rfl rfl rfl (PureOp.load (v := .int .i64 o4) Try.underlying3 rfl rfl (fun _ => (CellIs.cells 0 rfl rfl))) ?_
        refine SQ.pure rfl rfl rfl (PureOp.conv rfl Try.underlying3 Try.underlying52) ?_
        refine SQ.pure rfl rfl rfl (PureOp.move rfl) ?_
        refine SQ.pure rfl rfl rfl (PureOp.move rfl) ?_
        refine SQ.pure rfl rfl rfl (PureOp.indexAddr Try.underlying43 sz55 rfl rfl (AoOk.in_ sL) (fun _ => by omega)) ?_
        refine SQ.pure rfl rfl rfl (PureOp.fieldAddr 2 Try.underlying55 rfl rfl sz53 rfl) ?_
        refine SQ.pure rfl rfl rfl (PureOp.load (v := .slice ((nth l ((rix o2 m).toNat)).2.2.ao) ((nth l ((rix o2 m).toNat)).2.2.l.length) ((nth l ((rix o2 m).toNat)).2.2.cap)) Try.underlying53 rfl rfl (fun _ => (CellIs.in_ sL ((rix o2 m).toNat) 2 (by omega) (by omega)))) ?_
        refine SQ.pure rfl rfl rfl (PureOp.len rfl Try.underlying53) ?_
        refine SQ.pure rfl rfl rfl (PureOp.conv rfl Try.underlying3 Try.underlying52) ?_
        refine SQ.pure rfl rfl rfl (PureOp.rem rfl rfl (fun _ => by omega)) ?_
        refine SQ.pure rfl rfl rfl (PureOp.conv rfl Try.underlying52 Try.underlying3) ?_
        refine SQ.pure rfl rfl rfl (PureOp.assign rfl) ?_
        refine SQ.pure rfl rfl rfl (PureOp.assign rfl) ?_
        refine SQ.nil_then ?_
        refine WC.seq ?_
        refine WC.region ?_
        refine SL.pure rfl rfl rfl (PureOp.move rfl) ?_
        refine SL.pure rfl rfl rfl (PureOp.move rfl) ?_
        refine SL.pure rfl rfl rfl (PureOp.move rfl) ?_
        refine SL.calle rfl rfl rfl rfl rfl rfl callable28 (fun w hw => (by have h := rvalid52_ok w l la m lc hm (fun i hi => (hI i hi).below hw.below) (sL.below hw.below) c ca q cc hq (sC.below hw.below) P pa m pc hP.len.symm (fun t ht => hP.sub t ht w (SliceIn.rows (l := R.1) (both2 hw 1 rfl) encI_len (by rw [hRl]; exact Nat.le_refl _))) ((fun w hw => SliceIn.rows (l := P) (both1 hw 1 rfl) encSl_len (by rw [hP.len]; exact Nat.le_refl _)) w hw) (fun t ht => by have h1 := hPl t ht; have h2 := wayS_at (l := l) ht; omega); rw [plan_is hok hm hq hB hP] at h; exact h)) ?_
        refine SL.norm [_, _] rfl ?_
        refine SL.pure rfl rfl rfl (PureOp.move rfl) ?_
        refine SL.pure rfl rfl rfl (PureOp.extract rfl rfl) ?_
        refine SL.pure rfl rfl rfl (PureOp.extract rfl rfl) ?_
        refine SL.pure rfl rfl rfl (PureOp.extract rfl rfl) ?_
        refine SL.pure rfl rfl rfl (PureOp.assign rfl) ?_
        refine SL.pure rfl rfl rfl (PureOp.assign rfl) ?_
        refine SL.pure rfl rfl rfl (PureOp.assign rfl) ?_
        refine SL.nil_then ?_
        refine WC.seq ?_
        refine WC.seq ?_
        refine WC.region ?_
        refine SL.pure rfl rfl rfl (PureOp.move rfl) ?_
        refine SL.pure rfl rfl rfl (PureOp.neq rfl rfl) ?_
        refine SL.nil_then ?_
        refine WC.cond rfl (fun h4 => ?_) (fun h4 => ?_)
        · try simp only [Bool.and_eq_true, Bool.or_eq_true, Bool.not_eq_true', Bool.not_eq_false', Bool.and_eq_false_iff, Bool.or_eq_false_iff, decide_eq_true_eq, decide_eq_false_iff_not, Int.not_lt, Int.not_le, ne_eq, Decidable.not_not] at h4
          refine WC.seq ?_
          refine WC.region ?_
          refine SL.pure rfl rfl rfl (PureOp.assign rfl) ?_
          refine SL.nil_then ?_
          refine WC.ret ?_
          refine QX.ret_then ?_
          refine QX.ret1 rfl rfl ?_
          intro w hw
          first | rfl | exact absurd trivial h4 | (rw [hPl _ (by omega), hPl _ (by omega)]; simp)
        · try simp only [Bool.and_eq_true, Bool.or_eq_true, Bool.not_eq_true', Bool.not_eq_false', Bool.and_eq_false_iff, Bool.or_eq_false_iff, decide_eq_true_eq, decide_eq_false_iff_not, Int.not_lt, Int.not_le, ne_eq, Decidable.not_not] at h4
          refine WC.skip ?_
          refine QX.then_ ?_
          refine WC.seq ?_
          refine WC.region ?_
          refine SL.pure rfl rfl rfl (PureOp.move rfl) ?_
          refine SL.pure rfl rfl rfl (PureOp.move rfl) ?_
          refine SL.pure rfl rfl rfl (PureOp.move rfl) ?_
          refine SL.callof m (fun rs => FamC P (rix o1 m).toNat (rix o3 (nth l (rix o1 m).toNat).2.2.l.length).toNat 1 rs) rfl rfl rfl rfl rfl rfl callable32 (fun w hw => (by have h := copied_ok w P pa m pc hP.len.symm (fun t ht => hP.sub t ht w (SliceIn.rows (l := R.1) (both2 hw 1 rfl) encI_len (by rw [hRl]; exact Nat.le_refl _))) ((fun w hw => SliceIn.rows (l := P) (both1 hw 1 rfl) encSl_len (by rw [hP.len]; exact Nat.le_refl _)) w hw) (rix o1 m).toNat (rix o3 (nth l (rix o1 m).toNat).2.2.l.length).toNat 1 (by omega) (by rw [hPl _ (by omega)]; omega) (by omega) (fun t ht => by have h1 := hPl t ht; have h2 := wayS_at (l := l) ht; omega) (by omega) (by have h := plan_num hpo hOk (i := (rix o1 m).toNat) (j := (rix o3 (nth l (rix o1 m).toNat).2.2.l.length).toNat) (by omega) (by omega); omega); rw [Int.toNat_of_nonneg hra.1, Int.toNat_of_nonneg haa.1] at h; exact h)) ?_
          intro a1 c1 rs1 hF1
          refine SL.norm [_, _, _] rfl ?_
          refine SL.pure rfl rfl rfl (PureOp.assign rfl) ?_
          refine SL.nil_then ?_
          refine WC.seq ?_
          refine WC.region ?_
          refine SL.pure rfl rfl rfl (PureOp.move rfl) ?_
          refine SL.pure rfl rfl rfl (PureOp.move rfl) ?_
          refine SL.pure rfl rfl rfl (PureOp.move rfl) ?_
          refine SL.pure rfl rfl rfl (PureOp.move rfl) ?_
          refine SL.callof m (fun rs => FamC (planC P (rix o1 m).toNat (rix o3 (nth l (rix o1 m).toNat).2.2.l.length).toNat 1 rs1) (rix o2 m).toNat (rix o4 (nth l (rix o2 m).toNat).2.2.l.length).toNat (-1) rs) rfl rfl rfl rfl rfl rfl callable32 (fun w hw => (by have h := copied_ok w (planC P (rix o1 m).toNat (rix o3 (nth l (rix o1 m).toNat).2.2.l.length).toNat 1 rs1) a1 m c1 (by rw [planC_len, hP.len]) (hF1.inner hP.len.symm (hw.mem (i := 2) rfl)) (hF1.outer hP.len.symm (hw.mem (i := 2) rfl)) (rix o2 m).toNat (rix o4 (nth l (rix o2 m).toNat).2.2.l.length).toNat (-1) (by omega) (by rw [planC_rlen (by omega), hPl _ (by omega)]; omega) (by omega) (fun t ht => by rw [planC_rlen (by omega), hPl t ht]; have h2 := wayS_at (l := l) ht; omega) (by omega) (planC_num (by omega) (by omega) (by rw [hPl _ (by omega)]; omega) (plan_num hpo hOk (by omega) (by omega))); rw [Int.toNat_of_nonneg hrb.1, Int.toNat_of_nonneg hbb.1] at h; exact h)) ?_
          intro a2 c2 rs2 hF2
          refine SL.norm [_, _, _, _] rfl ?_
          refine SL.buildSlice rfl rfl Try.underlying57 elem44 rfl rfl rfl rfl (fun b2 hb2 => ?_)
          refine SL.norm [_, _, _, _, _] rfl ?_
          refine SL.pure rfl rfl rfl (PureOp.assign rfl) ?_
          refine SL.nil_then ?_
          refine WC.seq ?_
          refine WC.seq ?_
          refine WC.region ?_
          refine SL.pure rfl rfl rfl (PureOp.assign rfl) ?_
          refine SL.nil_then ?_
          refine WC.block ?_
          refine WC.loop (σ := Nat) (fun q_ => [(0, 0, .slice la m lc), (1, 0, .slice ca q cc), (2, 0, .agg #[.int .i64 o1, .int .i64 o2, .int .i64 o3, .int .i64 o4]), (5, 0, .pointer (some ⟨b1, 0, none⟩)), (7, 0, .slice pa m pc), (8, 0, .int .i64 0), (9, 0, .int .i64 (rix o1 m)), (10, 0, .int .i64 (rix o2 m)), (11, 0, .int .i64 (rix o3 (nth l (rix o1 m).toNat).2.2.l.length)), (12, 0, .int .i64 (rix o4 (nth l (rix o2 m).toNat).2.2.l.length)), (13, 0, .int .i64 R.2.1), (14, 0, .int .i64 R.2.2), (15, 0, .int .i64 0), (16, 0, .slice a1 m c1), (17, 0, .slice (some ⟨b2, 0, none⟩) 2 2), (22, 0, .slice la m lc), (23, 0, .slice ca q cc), (24, 0, .bool (bigB l c)), (26, 0, .tuple #[.slice pa m pc, .int .i64 0]), (27, 0, .slice la m lc), (28, 0, .slice ca q cc), (29, 0, .tuple #[.slice pa m pc, .int .i64 0]), (30, 0, .slice pa m pc), (31, 0, .int .i64 0), (32, 0, .int .i64 0), (33, 0, .bool false), (34, 0, .bool false), (35, 0, .slice la m lc), (36, 0, .int .i64 ((m : Nat) : Int)), (37, 0, .bool (decide (((m : Nat) : Int) = 0))), (38, 0, .bool (decide (((m : Nat) : Int) = 0))), (40, 0, .pointer (some ⟨b1, 0, none⟩)), (41, 0, .int .i64 o1), (42, 0, .int .u64 (IntKind.u64.wrap o1)), (43, 0, .slice la m lc), (44, 0, .int .i64 ((m : Nat) : Int)), (45, 0, .int .u64 (IntKind.u64.wrap ((m : Nat) : Int))), (46, 0, .int .u64 ((IntKind.u64.wrap o1).tmod (IntKind.u64.wrap ((m : Nat) : Int)))), (47, 0, .int .i64 (rix o1 m)), (48, 0, .pointer (some ⟨b1, 1, none⟩)), (49, 0, .int .i64 o2), (50, 0, .int .u64 (IntKind.u64.wrap o2)), (51, 0, .slice la m lc), (52, 0, .int .i64 ((m : Nat) : Int)), (53, 0, .int .u64 (IntKind.u64.wrap ((m : Nat) : Int))), (54, 0, .int .u64 ((IntKind.u64.wrap o2).tmod (IntKind.u64.wrap ((m : Nat) : Int)))), (55, 0, .int .i64 (rix o2 m)), (56, 0, .slice la m lc), (57, 0, .int .i64 (rix o1 m)), (58, 0, .pointer (some ⟨blk la, off la + ((rix o1 m).toNat) * 3, none⟩)), (59, 0, .pointer (some ⟨blk la, off la + ((rix o1 m).toNat) * 3 + 2, none⟩)), (60, 0, .slice ((nth l ((rix o1 m).toNat)).2.2.ao) ((nth l ((rix o1 m).toNat)).2.2.l.length) ((nth l ((rix o1 m).toNat)).2.2.cap)), (61, 0, .int .i64 (((nth l ((rix o1 m).toNat)).2.2.l.length : Nat) : Int)), (62, 0, .bool (decide ((((nth l ((rix o1 m).toNat)).2.2.l.length : Nat) : Int) = 0))), (63, 0, .bool (decide ((((nth l ((rix o1 m).toNat)).2.2.l.length : Nat) : Int) = 0))), (71, 0, .bool ((decide ((((nth l ((rix o1 m).toNat)).2.2.l.length : Nat) : Int) = 0)) || (decide ((((nth l ((rix o2 m).toNat)).2.2.l.length : Nat) : Int) = 0)))), (72, 0, .bool ((decide ((((nth l ((rix o1 m).toNat)).2.2.l.length : Nat) : Int) = 0)) || (decide ((((nth l ((rix o2 m).toNat)).2.2.l.length : Nat) : Int) = 0)))), (78, 0, .bool (((decide ((((nth l ((rix o1 m).toNat)).2.2.l.length : Nat) : Int) = 0)) || (decide ((((nth l ((rix o2 m).toNat)).2.2.l.length : Nat) : Int) = 0))) || (decide (((m : Nat) : Int) ≠ ((m : Nat) : Int))))), (79, 0, .bool (((decide ((((nth l ((rix o1 m).toNat)).2.2.l.length : Nat) : Int) = 0)) || (decide ((((nth l ((rix o2 m).toNat)).2.2.l.length : Nat) : Int) = 0))) || (decide (((m : Nat) : Int) ≠ ((m : Nat) : Int))))), (92, 0, .bool ((((decide ((((nth l ((rix o1 m).toNat)).2.2.l.length : Nat) : Int) = 0)) || (decide ((((nth l ((rix o2 m).toNat)).2.2.l.length : Nat) : Int) = 0))) || (decide (((m : Nat) : Int) ≠ ((m : Nat) : Int)))) || (decide ((((nth P ((rix o1 m).toNat)).l.length : Nat) : Int) ≠ (((nth l ((rix o1 m).toNat)).2.2.l.length : Nat) : Int))))), (93, 0, .bool ((((decide ((((nth l ((rix o1 m).toNat)).2.2.l.length : Nat) : Int) = 0)) || (decide ((((nth l ((rix o2 m).toNat)).2.2.l.length : Nat) : Int) = 0))) || (decide (((m : Nat) : Int) ≠ ((m : Nat) : Int)))) || (decide ((((nth P ((rix o1 m).toNat)).l.length : Nat) : Int) ≠ (((nth l ((rix o1 m).toNat)).2.2.l.length : Nat) : Int))))), (106, 0, .bool (((((decide ((((nth l ((rix o1 m).toNat)).2.2.l.length : Nat) : Int) = 0)) || (decide ((((nth l ((rix o2 m).toNat)).2.2.l.length : Nat) : Int) = 0))) || (decide (((m : Nat) : Int) ≠ ((m : Nat) : Int)))) || (decide ((((nth P ((rix o1 m).toNat)).l.length : Nat) : Int) ≠ (((nth l ((rix o1 m).toNat)).2.2.l.length : Nat) : Int)))) || (decide ((((nth P ((rix o2 m).toNat)).l.length : Nat) : Int) ≠ (((nth l ((rix o2 m).toNat)).2.2.l.length : Nat) : Int))))), (143, 0, .pointer (some ⟨b1, 2, none⟩)), (144, 0, .int .i64 o3), (145, 0, .int .u64 (IntKind.u64.wrap o3)), (146, 0, .slice la m lc), (147, 0, .int .i64 (rix o1 m)), (148, 0, .pointer (some ⟨blk la, off la + ((rix o1 m).toNat) * 3, none⟩)), (149, 0, .pointer (some ⟨blk la, off la + ((rix o1 m).toNat) * 3 + 2, none⟩)), (150, 0, .slice ((nth l ((rix o1 m).toNat)).2.2.ao) ((nth l ((rix o1 m).toNat)).2.2.l.length) ((nth l ((rix o1 m).toNat)).2.2.cap)), (151, 0, .int .i64 (((nth l ((rix o1 m).toNat)).2.2.l.length : Nat) : Int)), (152, 0, .int .u64 (IntKind.u64.wrap (((nth l ((rix o1 m).toNat)).2.2.l.length : Nat) : Int))), (153, 0, .int .u64 ((IntKind.u64.wrap o3).tmod (IntKind.u64.wrap (((nth l ((rix o1 m).toNat)).2.2.l.length : Nat) : Int)))), (154, 0, .int .i64 (rix o3 (nth l (rix o1 m).toNat).2.2.l.length)), (155, 0, .pointer (some ⟨b1, 3, none⟩)), (156, 0, .int .i64 o4), (157, 0, .int .u64 (IntKind.u64.wrap o4)), (158, 0, .slice la m lc), (159, 0, .int .i64 (rix o2 m)), (160, 0, .pointer (some ⟨blk la, off la + ((rix o2 m).toNat) * 3, none⟩)), (161, 0, .pointer (some ⟨blk la, off la + ((rix o2 m).toNat) * 3 + 2, none⟩)), (162, 0, .slice ((nth l ((rix o2 m).toNat)).2.2.ao) ((nth l ((rix o2 m).toNat)).2.2.l.length) ((nth l ((rix o2 m).toNat)).2.2.cap)), (163, 0, .int .i64 (((nth l ((rix o2 m).toNat)).2.2.l.length : Nat) : Int)), (164, 0, .int .u64 (IntKind.u64.wrap (((nth l ((rix o2 m).toNat)).2.2.l.length : Nat) : Int))), (165, 0, .int .u64 ((IntKind.u64.wrap o4).tmod (IntKind.u64.wrap (((nth l ((rix o2 m).toNat)).2.2.l.length : Nat) : Int)))), (166, 0, .int .i64 (rix o4 (nth l (rix o2 m).toNat).2.2.l.length)), (167, 0, .tuple #[.int .i64 R.2.1, .int .i64 R.2.2, .int .i64 0]), (168, 0, .slice la m lc), (169, 0, .slice ca q cc), (170, 0, .slice pa m pc), (171, 0, .tuple #[.int .i64 R.2.1, .int .i64 R.2.2, .int .i64 0]), (172, 0, .int .i64 R.2.1), (173, 0, .int .i64 R.2.2), (174, 0, .int .i64 0), (175, 0, .int .i64 0), (176, 0, .bool (decide (0 ≠ 0))), (177, 0, .slice pa m pc), (178, 0, .int .i64 (rix o1 m)), (179, 0, .int .i64 (rix o3 (nth l (rix o1 m).toNat).2.2.l.length)), (180, 0, .slice a1 m c1), (181, 0, .slice a1 m c1), (182, 0, .slice a1 m c1), (183, 0, .int .i64 (rix o2 m)), (184, 0, .int .i64 (rix o4 (nth l (rix o2 m).toNat).2.2.l.length)), (185, 0, .slice a2 m c2), (186, 0, .slice (some ⟨b2, 0, none⟩) 2 2), (18, 0, .int .i64 ((q_ : Nat) : Int))]) (fun q_ => [Item.cells b1 [.int .i64 o1, .int .i64 o2, .int .i64 o3, .int .i64 o4] 49, Item.both (.own w0.heap.size pa m pc 29 1 (cellsOf encSl P)) (.own w0.heap.size fa (m + q + wayS l m) fc 3 1 (cellsOf encI R.1)), ofam w0.heap.size a1 m c1 rs1, ofam w0.heap.size a2 m c2 rs2, Item.own w0.heap.size (some ⟨b2, 0, none⟩) 2 2 44 1 ([.slice a1 m c1, .slice a2 m c2])]) (fun q_ => q_ ≤ 2) (fun q_ => 2 - q_) 5 (0) (Nat.zero_le _) ⟨rfl, rfl, rfl, rfl, rfl, rfl, rfl, rfl, rfl, rfl, rfl, rfl, rfl, rfl, rfl, rfl, rfl, rfl, rfl, rfl, rfl, rfl, rfl, rfl, rfl, rfl, rfl, rfl, rfl, rfl, rfl, rfl, rfl, rfl, rfl, rfl, rfl, rfl, rfl, rfl, rfl, rfl, rfl, rfl, rfl, rfl, rfl, rfl, rfl, rfl, rfl, rfl, rfl, rfl, rfl, rfl, rfl, rfl, rfl, rfl, rfl, rfl, rfl, rfl, rfl, rfl, rfl, rfl, rfl, rfl, rfl, rfl, rfl, rfl, rfl, rfl, rfl, rfl, rfl, rfl, rfl, rfl, rfl, rfl, rfl, rfl, rfl, rfl, rfl, rfl, rfl, rfl, rfl, rfl, rfl, rfl, rfl, rfl, rfl, rfl, rfl, rfl, rfl, rfl, rfl, rfl, rfl, rfl, rfl, rfl, rfl, rfl, rfl, rfl, rfl, rfl, rfl, rfl, rfl, rfl, rfl, rfl, rfl, rfl, rfl, rfl, rfl, rfl, rfl, rfl, rfl, rfl, rfl, rfl, rfl, rfl, rfl, rfl, rfl, rfl, rfl, rfl, rfl, rfl, rfl, rfl, rfl, rfl, rfl, rfl, rfl, rfl, rfl, rfl, rfl, rfl, rfl, rfl, rfl, rfl, rfl, rfl, rfl, rfl, rfl, rfl, rfl, rfl, rfl, rfl, rfl, rfl, rfl, rfl, rfl, rfl, rfl, rfl, rfl, rfl, rfl, rfl, rfl, rfl, rfl, rfl, rfl, rfl, rfl, rfl, rfl, rfl, rfl, rfl, rfl, rfl, rfl, rfl, rfl, rfl, rfl, rfl, rfl, rfl, rfl, rfl, rfl, rfl, rfl, rfl, rfl, rfl, rfl, rfl, trivial⟩ rfl ?_
          rintro k hk
          refine WC.seq ?_
          refine WC.seq ?_
          refine WC.region ?_
          refine SL.pure rfl rfl rfl (PureOp.move rfl) ?_
          refine SL.pure rfl rfl rfl (PureOp.move rfl) ?_
          refine SL.pure rfl rfl rfl (PureOp.len rfl Try.underlying57) ?_
          refine SL.pure rfl rfl rfl (PureOp.lss rfl rfl) ?_
          refine SL.nil_then ?_
          refine WC.cond rfl (fun h5 => ?_) (fun h5 => ?_)
          · try simp only [Bool.and_eq_true, Bool.or_eq_true, Bool.not_eq_true', Bool.not_eq_false', Bool.and_eq_false_iff, Bool.or_eq_false_iff, decide_eq_true_eq, decide_eq_false_iff_not, Int.not_lt, Int.not_le, ne_eq, Decidable.not_not] at h5
            rcases (show k = 0 ∨ k = 1 by omega) with rfl | rfl
            · skip
              refine WC.skip ?_
              refine QX.then_ ?_
              refine WC.seq ?_
              refine WC.block ?_
              refine WC.seq ?_
              refine WC.region ?_
              refine SL.pure rfl rfl rfl (PureOp.move rfl) ?_
              refine SL.pure rfl rfl rfl (PureOp.move rfl) ?_
              refine SL.pure rfl rfl rfl (PureOp.move rfl) ?_
              refine SL.pure rfl rfl rfl (PureOp.move rfl) ?_
              refine SL.pure rfl rfl rfl (PureOp.indexAddrN Try.underlying57 sz44 rfl rfl AoOk.lit (fun _ => by omega)) ?_
              refine SL.pure rfl rfl rfl (PureOp.load (v := .slice a1 m c1) Try.underlying44 rfl rfl (fun _ => (CellIs.ownc (ao := some ⟨b2, 0, none⟩) (n := 2) (cap := 2) (sz := 1) (xs := [.slice a1 m c1, .slice a2 m c2]) 4 rfl 0 0 (by rfl)))) ?_
              refine SL.calle rfl rfl rfl rfl rfl rfl callable28 (fun w hw => rvalid52_ok w l la m lc hm (fun i hi => (hI i hi).below hw.below) (sL.below hw.below) c ca q cc hq (sC.below hw.below) (planC P (rix o1 m).toNat (rix o3 (nth l (rix o1 m).toNat).2.2.l.length).toNat 1 rs1) a1 m c1 (by rw [planC_len]; first | exact hP.len.symm | (rw [planC_len]; exact hP.len.symm)) (hF1.inner hP.len.symm (hw.mem (i := 2) rfl)) (hF1.outer hP.len.symm (hw.mem (i := 2) rfl)) (fun t ht => by rw [planC_rlen (by first | omega | (rw [planC_len]; omega))]; first | (rw [hPl t ht]; have h2 := wayS_at (l := l) ht; omega) | (rw [planC_rlen (by omega), hPl t ht]; have h2 := wayS_at (l := l) ht; omega))) ?_
              refine SL.norm [_, _, _, _, _] rfl ?_
              refine SL.pure rfl rfl rfl (PureOp.move rfl) ?_
              refine SL.pure rfl rfl rfl (PureOp.extract rfl rfl) ?_
              refine SL.pure rfl rfl rfl (PureOp.extract rfl rfl) ?_
              refine SL.pure rfl rfl rfl (PureOp.extract rfl rfl) ?_
              refine SL.pure rfl rfl rfl (PureOp.assign rfl) ?_
              refine SL.pure rfl rfl rfl (PureOp.assign rfl) ?_
              refine SL.pure rfl rfl rfl (PureOp.assign rfl) ?_
              refine SL.nil_then ?_
              refine WC.seq ?_
              refine WC.region ?_
              refine SL.pure rfl rfl rfl (PureOp.move rfl) ?_
              refine SL.pure rfl rfl rfl (PureOp.eql rfl rfl) ?_
              refine SL.pure rfl rfl rfl (PureOp.move rfl) ?_
              refine SL.newg 206 true rfl ?_
              refine SL.gpure (c := 1) rfl rfl rfl rfl rfl rfl rfl (PureOp.move rfl) ?_
              refine SL.gpure (c := 1) rfl rfl rfl rfl rfl rfl rfl (PureOp.move rfl) ?_
              refine SL.gpure (c := 1) rfl rfl rfl rfl rfl rfl rfl (PureOp.gtr rfl rfl) ?_
              refine SL.gpure (c := 1) rfl rfl rfl rfl rfl rfl rfl (PureOp.move rfl) ?_
              refine SL.newg 210 false rfl ?_
              refine SL.gpure (c := 2) rfl rfl rfl rfl rfl rfl rfl (PureOp.move rfl) ?_
              refine SL.gpure (c := 2) rfl rfl rfl rfl rfl rfl rfl (PureOp.move rfl) ?_
              refine SL.gpure (c := 2) rfl rfl rfl rfl rfl rfl rfl (PureOp.eql rfl rfl) ?_
              refine SL.gpure (c := 2) rfl rfl rfl rfl rfl rfl rfl (PureOp.move rfl) ?_
              refine SL.newg 214 true rfl ?_
              refine SL.gpure (c := 3) rfl rfl rfl rfl rfl rfl rfl (PureOp.move rfl) ?_
              refine SL.gpure (c := 3) rfl rfl rfl rfl rfl rfl rfl (PureOp.move rfl) ?_
              refine SL.gpure (c := 3) rfl rfl rfl rfl rfl rfl rfl (PureOp.lss rfl rfl) ?_
              refine SL.gpure (c := 2) rfl rfl rfl rfl rfl rfl rfl (PureOp.and_ rfl rfl rfl rfl) ?_
              refine SL.gpure (c := 1) rfl rfl rfl rfl rfl rfl rfl (PureOp.or_ rfl rfl rfl rfl) ?_
              refine SL.pure rfl rfl rfl (PureOp.and_ rfl rfl rfl rfl) ?_
              refine SL.nil_then ?_
              refine WC.cond rfl (fun h6 => ?_) (fun h6 => ?_)
              · try simp only [Bool.and_eq_true, Bool.or_eq_true, Bool.not_eq_true', Bool.not_eq_false', Bool.and_eq_false_iff, Bool.or_eq_false_iff, decide_eq_true_eq, decide_eq_false_iff_not, Int.not_lt, Int.not_le, ne_eq, Decidable.not_not] at h6
                exact absurd (plan_no_better hok hm hq hS hB (show rval l c (planC P (rix o1 m).toNat (rix o3 (nth l (rix o1 m).toNat).2.2.l.length).toNat 1 rs1) = ((rval l c (planC P (rix o1 m).toNat (rix o3 (nth l (rix o1 m).toNat).2.2.l.length).toNat 1 rs1)).1, (rval l c (planC P (rix o1 m).toNat (rix o3 (nth l (rix o1 m).toNat).2.2.l.length).toNat 1 rs1)).2.1, 0) from Prod.ext rfl (Prod.ext rfl h6.1))) (by omega)
              · try simp only [Bool.and_eq_true, Bool.or_eq_true, Bool.not_eq_true', Bool.not_eq_false', Bool.and_eq_false_iff, Bool.or_eq_false_iff, decide_eq_true_eq, decide_eq_false_iff_not, Int.not_lt, Int.not_le, ne_eq, Decidable.not_not] at h6
                refine WC.skip ?_
                refine QX.normal_in ?_
                refine QX.then_ ?_
                refine WC.region ?_
                refine SL.pure rfl rfl rfl (PureOp.move rfl) ?_
                refine SL.pure rfl rfl rfl (PureOp.addN (k := 1) rfl rfl (fun _ => by omega)) ?_
                refine SL.pure rfl rfl rfl (PureOp.assign rfl) ?_
                refine SL.nil ?_
                refine QX.round 5 (0 + 1) ⟨(by first | omega | (dsimp only; omega)), by first | omega | (dsimp only; omega)⟩ ⟨rfl, rfl, rfl, rfl, rfl, rfl, rfl, rfl, rfl, rfl, rfl, rfl, rfl, rfl, rfl, rfl, rfl, rfl, rfl, rfl, rfl, rfl, rfl, rfl, rfl, rfl, rfl, rfl, rfl, rfl, rfl, rfl, rfl, rfl, rfl, rfl, rfl, rfl, rfl, rfl, rfl, rfl, rfl, rfl, rfl, rfl, rfl, rfl, rfl, rfl, rfl, rfl, rfl, rfl, rfl, rfl, rfl, rfl, rfl, rfl, rfl, rfl, rfl, rfl, rfl, rfl, rfl, rfl, rfl, rfl, rfl, rfl, rfl, rfl, rfl, rfl, rfl, rfl, rfl, rfl, rfl, rfl, rfl, rfl, rfl, rfl, rfl, rfl, rfl, rfl, rfl, rfl, rfl, rfl, rfl, rfl, rfl, rfl, rfl, rfl, rfl, rfl, rfl, rfl, rfl, rfl, rfl, rfl, rfl, rfl, rfl, rfl, rfl, rfl, rfl, rfl, rfl, rfl, rfl, rfl, rfl, rfl, rfl, rfl, rfl, rfl, rfl, rfl, rfl, rfl, rfl, rfl, rfl, rfl, rfl, rfl, rfl, rfl, rfl, rfl, rfl, rfl, rfl, rfl, rfl, rfl, rfl, rfl, rfl, rfl, rfl, rfl, rfl, rfl, rfl, rfl, rfl, rfl, rfl, rfl, rfl, rfl, rfl, rfl, rfl, rfl, rfl, rfl, rfl, rfl, rfl, rfl, rfl, rfl, rfl, rfl, rfl, rfl, rfl, rfl, rfl, rfl, rfl, rfl, rfl, rfl, rfl, rfl, rfl, rfl, rfl, rfl, rfl, rfl, rfl, rfl, rfl, rfl, rfl, rfl, rfl, rfl, rfl, rfl, rfl, rfl, rfl, rfl, rfl, rfl, rfl, rfl, rfl, rfl, trivial⟩ rfl
            · skip
              refine WC.skip ?_
              refine QX.then_ ?_
              refine WC.seq ?_
              refine WC.block ?_
              refine WC.seq ?_
              refine WC.region ?_
              refine SL.pure rfl rfl rfl (PureOp.move rfl) ?_
              refine SL.pure rfl rfl rfl (PureOp.move rfl) ?_
              refine SL.pure rfl rfl rfl (PureOp.move rfl) ?_
              refine SL.pure rfl rfl rfl (PureOp.move rfl) ?_
              refine SL.pure rfl rfl rfl (PureOp.indexAddrN Try.underlying57 sz44 rfl rfl AoOk.lit (fun _ => by omega)) ?_
              refine SL.pure rfl rfl rfl (PureOp.load (v := .slice a2 m c2) Try.underlying44 rfl rfl (fun _ => (CellIs.ownc (ao := some ⟨b2, 0, none⟩) (n := 2) (cap := 2) (sz := 1) (xs := [.slice a1 m c1, .slice a2 m c2]) 4 rfl 1 0 (by rfl)))) ?_
              refine SL.calle rfl rfl rfl rfl rfl rfl callable28 (fun w hw => rvalid52_ok w l la m lc hm (fun i hi => (hI i hi).below hw.below) (sL.below hw.below) c ca q cc hq (sC.below hw.below) (planC (planC P (rix o1 m).toNat (rix o3 (nth l (rix o1 m).toNat).2.2.l.length).toNat 1 rs1) (rix o2 m).toNat (rix o4 (nth l (rix o2 m).toNat).2.2.l.length).toNat (-1) rs2) a2 m c2 (by rw [planC_len]; first | exact hP.len.symm | (rw [planC_len]; exact hP.len.symm)) (hF2.inner (by rw [planC_len, hP.len]) (hw.mem (i := 3) rfl)) (hF2.outer (by rw [planC_len, hP.len]) (hw.mem (i := 3) rfl)) (fun t ht => by rw [planC_rlen (by first | omega | (rw [planC_len]; omega))]; first | (rw [hPl t ht]; have h2 := wayS_at (l := l) ht; omega) | (rw [planC_rlen (by omega), hPl t ht]; have h2 := wayS_at (l := l) ht; omega))) ?_
              refine SL.norm [_, _, _, _, _] rfl ?_
              refine SL.pure rfl rfl rfl (PureOp.move rfl) ?_
              refine SL.pure rfl rfl rfl (PureOp.extract rfl rfl) ?_
              refine SL.pure rfl rfl rfl (PureOp.extract rfl rfl) ?_
              refine SL.pure rfl rfl rfl (PureOp.extract rfl rfl) ?_
              refine SL.pure rfl rfl rfl (PureOp.assign rfl) ?_
              refine SL.pure rfl rfl rfl (PureOp.assign rfl) ?_
              refine SL.pure rfl rfl rfl (PureOp.assign rfl) ?_
              refine SL.nil_then ?_
              refine WC.seq ?_
              refine WC.region ?_
              refine SL.pure rfl rfl rfl (PureOp.move rfl) ?_
              refine SL.pure rfl rfl rfl (PureOp.eql rfl rfl) ?_
              refine SL.pure rfl rfl rfl (PureOp.move rfl) ?_
              refine SL.newg 206 true rfl ?_
              refine SL.gpure (c := 1) rfl rfl rfl rfl rfl rfl rfl (PureOp.move rfl) ?_
              refine SL.gpure (c := 1) rfl rfl rfl rfl rfl rfl rfl (PureOp.move rfl) ?_
              refine SL.gpure (c := 1) rfl rfl rfl rfl rfl rfl rfl (PureOp.gtr rfl rfl) ?_
              refine SL.gpure (c := 1) rfl rfl rfl rfl rfl rfl rfl (PureOp.move rfl) ?_
              refine SL.newg 210 false rfl ?_
              refine SL.gpure (c := 2) rfl rfl rfl rfl rfl rfl rfl (PureOp.move rfl) ?_
              refine SL.gpure (c := 2) rfl rfl rfl rfl rfl rfl rfl (PureOp.move rfl) ?_
              refine SL.gpure (c := 2) rfl rfl rfl rfl rfl rfl rfl (PureOp.eql rfl rfl) ?_
              refine SL.gpure (c := 2) rfl rfl rfl rfl rfl rfl rfl (PureOp.move rfl) ?_
              refine SL.newg 214 true rfl ?_
              refine SL.gpure (c := 3) rfl rfl rfl rfl rfl rfl rfl (PureOp.move rfl) ?_
              refine SL.gpure (c := 3) rfl rfl rfl rfl rfl rfl rfl (PureOp.move rfl) ?_
              refine SL.gpure (c := 3) rfl rfl rfl rfl rfl rfl rfl (PureOp.lss rfl rfl) ?_
              refine SL.gpure (c := 2) rfl rfl rfl rfl rfl rfl rfl (PureOp.and_ rfl rfl rfl rfl) ?_
              refine SL.gpure (c := 1) rfl rfl rfl rfl rfl rfl rfl (PureOp.or_ rfl rfl rfl rfl) ?_
              refine SL.pure rfl rfl rfl (PureOp.and_ rfl rfl rfl rfl) ?_
              refine SL.nil_then ?_
              refine WC.cond rfl (fun h7 => ?_) (fun h7 => ?_)
              · try simp only [Bool.and_eq_true, Bool.or_eq_true, Bool.not_eq_true', Bool.not_eq_false', Bool.and_eq_false_iff, Bool.or_eq_false_iff, decide_eq_true_eq, decide_eq_false_iff_not, Int.not_lt, Int.not_le, ne_eq, Decidable.not_not] at h7
                exact absurd (plan_no_better hok hm hq hS hB (show rval l c (planC (planC P (rix o1 m).toNat (rix o3 (nth l (rix o1 m).toNat).2.2.l.length).toNat 1 rs1) (rix o2 m).toNat (rix o4 (nth l (rix o2 m).toNat).2.2.l.length).toNat (-1) rs2) = ((rval l c (planC (planC P (rix o1 m).toNat (rix o3 (nth l (rix o1 m).toNat).2.2.l.length).toNat 1 rs1) (rix o2 m).toNat (rix o4 (nth l (rix o2 m).toNat).2.2.l.length).toNat (-1) rs2)).1, (rval l c (planC (planC P (rix o1 m).toNat (rix o3 (nth l (rix o1 m).toNat).2.2.l.length).toNat 1 rs1) (rix o2 m).toNat (rix o4 (nth l (rix o2 m).toNat).2.2.l.length).toNat (-1) rs2)).2.1, 0) from Prod.ext rfl (Prod.ext rfl h7.1))) (by omega)
              · try simp only [Bool.and_eq_true, Bool.or_eq_true, Bool.not_eq_true', Bool.not_eq_false', Bool.and_eq_false_iff, Bool.or_eq_false_iff, decide_eq_true_eq, decide_eq_false_iff_not, Int.not_lt, Int.not_le, ne_eq, Decidable.not_not] at h7
                refine WC.skip ?_
                refine QX.normal_in ?_
                refine QX.then_ ?_
                refine WC.region ?_
                refine SL.pure rfl rfl rfl (PureOp.move rfl) ?_
                refine SL.pure rfl rfl rfl (PureOp.addN (k := 1) rfl rfl (fun _ => by omega)) ?_
                refine SL.pure rfl rfl rfl (PureOp.assign rfl) ?_
                refine SL.nil ?_
                refine QX.round 5 (1 + 1) ⟨(by first | omega | (dsimp only; omega)), by first | omega | (dsimp only; omega)⟩ ⟨rfl, rfl, rfl, rfl, rfl, rfl, rfl, rfl, rfl, rfl, rfl, rfl, rfl, rfl, rfl, rfl, rfl, rfl, rfl, rfl, rfl, rfl, rfl, rfl, rfl, rfl, rfl, rfl, rfl, rfl, rfl, rfl, rfl, rfl, rfl, rfl, rfl, rfl, rfl, rfl, rfl, rfl, rfl, rfl, rfl, rfl, rfl, rfl, rfl, rfl, rfl, rfl, rfl, rfl, rfl, rfl, rfl, rfl, rfl, rfl, rfl, rfl, rfl, rfl, rfl, rfl, rfl, rfl, rfl, rfl, rfl, rfl, rfl, rfl, rfl, rfl, rfl, rfl, rfl, rfl, rfl, rfl, rfl, rfl, rfl, rfl, rfl, rfl, rfl, rfl, rfl, rfl, rfl, rfl, rfl, rfl, rfl, rfl, rfl, rfl, rfl, rfl, rfl, rfl, rfl, rfl, rfl, rfl, rfl, rfl, rfl, rfl, rfl, rfl, rfl, rfl, rfl, rfl, rfl, rfl, rfl, rfl, rfl, rfl, rfl, rfl, rfl, rfl, rfl, rfl, rfl, rfl, rfl, rfl, rfl, rfl, rfl, rfl, rfl, rfl, rfl, rfl, rfl, rfl, rfl, rfl, rfl, rfl, rfl, rfl, rfl, rfl, rfl, rfl, rfl, rfl, rfl, rfl, rfl, rfl, rfl, rfl, rfl, rfl, rfl, rfl, rfl, rfl, rfl, rfl, rfl, rfl, rfl, rfl, rfl, rfl, rfl, rfl, rfl, rfl, rfl, rfl, rfl, rfl, rfl, rfl, rfl, rfl, rfl, rfl, rfl, rfl, rfl, rfl, rfl, rfl, rfl, rfl, rfl, rfl, rfl, rfl, rfl, rfl, rfl, rfl, rfl, rfl, rfl, rfl, rfl, rfl, rfl, rfl, trivial⟩ rfl
          · try simp only [Bool.and_eq_true, Bool.or_eq_true, Bool.not_eq_true', Bool.not_eq_false', Bool.and_eq_false_iff, Bool.or_eq_false_iff, decide_eq_true_eq, decide_eq_false_iff_not, Int.not_lt, Int.not_le, ne_eq, Decidable.not_not] at h5
            refine WC.exit ?_
            refine QX.exit_then ?_
            refine QX.exit_then ?_
            refine QX.exit_hit ?_
            refine QX.then_ ?_
            refine WC.seq ?_
            refine WC.region ?_
            refine SL.calle rfl rfl rfl rfl rfl rfl callable26 (fun w hw => awake52_ok w) ?_
            refine SL.norm [_, _, _, _, _] rfl ?_
            refine SL.pure rfl rfl rfl (PureOp.assign rfl) ?_
            refine SL.nil_then ?_
            refine WC.ret ?_
            refine QX.ret1 rfl rfl ?_
            intro w hw
            first | rfl | exact absurd trivial h4 | (rw [hPl _ (by omega), hPl _ (by omega)]; simp)

end Go.Proofs.Ytngkbnaehkailaa
