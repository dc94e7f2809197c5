import Derived.Test.YtngkbnaehkailaaFlP
namespace Go.Proofs.Ytngkbnaehkailaa
open Go Go.RowKit Eng
set_option linter.unusedVariables false
set_option linter.unusedSimpArgs false

set_option maxHeartbeats 4000000 in
set_option maxRecDepth 100000 in
theorem rsolve_bad (n : Int) (l : List Ed) (ea : Option Addr) (m ec : Nat) (hm : m = l.length) (s t most : Int) (hbad : checkE n l s t ≠ 0 ∨ most < 0) (w0 : World) (sE : SliceIn w0 4 ea m ec (rowsF encEd l)) : FnC Try.prog 19 [.int .i64 n, .slice ea m ec, .int .i64 s, .int .i64 t, .int .i64 most] w0 fun v w' => v = .tuple #[.slice none 0 0, .int .i64 0, .int .i64 0, .int .i64 (if checkE n l s t ≠ 0 then checkE n l s t else 2)] := by
  refine fnc (N := 124) Try.func19 rfl rfl rfl ?_
  refine WC.seq ?_
  refine WC.region ?_
  refine SL.pure rfl rfl rfl (PureOp.assign rfl) ?_
  refine SL.pure rfl rfl rfl (PureOp.assign rfl) ?_
  refine SL.pure rfl rfl rfl (PureOp.assign rfl) ?_
  refine SL.pure rfl rfl rfl (PureOp.assign rfl) ?_
  refine SL.nil_then ?_
  refine WC.seq ?_
  refine WC.region ?_
  refine SL.pure rfl rfl rfl (PureOp.move rfl) ?_
  refine SL.pure rfl rfl rfl (PureOp.move rfl) ?_
  refine SL.pure rfl rfl rfl (PureOp.move rfl) ?_
  refine SL.pure rfl rfl rfl (PureOp.move rfl) ?_
  refine SL.calle rfl rfl rfl rfl rfl rfl callable13 (fun w hw => rcheck_ok n l ea m ec hm s t w (sE.below hw.below)) ?_
  refine SL.norm [] rfl ?_
  refine SL.pure rfl rfl rfl (PureOp.assign rfl) ?_
  refine SL.nil_then ?_
  refine WC.seq ?_
  refine WC.seq ?_
  refine WC.region ?_
  refine SL.pure rfl rfl rfl (PureOp.move rfl) ?_
  refine SL.pure rfl rfl rfl (PureOp.neq rfl rfl) ?_
  refine SL.nil_then ?_
  refine WC.cond rfl (fun h1 => ?_) (fun h1 => ?_)
  · try simp only [Bool.and_eq_true, Bool.or_eq_true, Bool.not_eq_true', Bool.not_eq_false', Bool.and_eq_false_iff, Bool.or_eq_false_iff, decide_eq_true_eq, decide_eq_false_iff_not, Int.not_lt, Int.not_le, ne_eq, Decidable.not_not] at h1
    refine WC.seq ?_
    refine WC.region ?_
    refine SL.pure rfl rfl rfl (PureOp.move rfl) ?_
    refine SL.pure rfl rfl rfl (PureOp.assign rfl) ?_
    refine SL.pure rfl rfl rfl (PureOp.assign rfl) ?_
    refine SL.pure rfl rfl rfl (PureOp.assign rfl) ?_
    refine SL.pure rfl rfl rfl (PureOp.assign rfl) ?_
    refine SL.nil_then ?_
    refine WC.ret ?_
    refine QX.ret_then ?_
    refine QX.retv rfl (RVs.cons (RV.tmp rfl) (RVs.cons (RV.tmp rfl) (RVs.cons (RV.tmp rfl) (RVs.cons (RV.tmp rfl) RVs.nil)))) ?_
    intro w hw
    rw [if_pos h1]; rfl
  · try simp only [Bool.and_eq_true, Bool.or_eq_true, Bool.not_eq_true', Bool.not_eq_false', Bool.and_eq_false_iff, Bool.or_eq_false_iff, decide_eq_true_eq, decide_eq_false_iff_not, Int.not_lt, Int.not_le, ne_eq, Decidable.not_not] at h1
    refine WC.skip ?_
    refine QX.then_ ?_
    refine WC.seq ?_
    refine WC.seq ?_
    refine WC.region ?_
    refine SL.pure rfl rfl rfl (PureOp.move rfl) ?_
    refine SL.pure rfl rfl rfl (PureOp.lss rfl rfl) ?_
    refine SL.nil_then ?_
    refine WC.cond rfl (fun h2 => ?_) (fun h2 => ?_)
    · try simp only [Bool.and_eq_true, Bool.or_eq_true, Bool.not_eq_true', Bool.not_eq_false', Bool.and_eq_false_iff, Bool.or_eq_false_iff, decide_eq_true_eq, decide_eq_false_iff_not, Int.not_lt, Int.not_le, ne_eq, Decidable.not_not] at h2
      refine WC.seq ?_
      refine WC.region ?_
      refine SL.pure rfl rfl rfl (PureOp.assign rfl) ?_
      refine SL.pure rfl rfl rfl (PureOp.assign rfl) ?_
      refine SL.pure rfl rfl rfl (PureOp.assign rfl) ?_
      refine SL.pure rfl rfl rfl (PureOp.assign rfl) ?_
      refine SL.nil_then ?_
      refine WC.ret ?_
      refine QX.ret_then ?_
      refine QX.retv rfl (RVs.cons (RV.tmp rfl) (RVs.cons (RV.tmp rfl) (RVs.cons (RV.tmp rfl) (RVs.cons (RV.tmp rfl) RVs.nil)))) ?_
      intro w hw
      rw [if_neg (by simp [h1])]; rfl
    · try simp only [Bool.and_eq_true, Bool.or_eq_true, Bool.not_eq_true', Bool.not_eq_false', Bool.and_eq_false_iff, Bool.or_eq_false_iff, decide_eq_true_eq, decide_eq_false_iff_not, Int.not_lt, Int.not_le, ne_eq, Decidable.not_not] at h2
      exact (by exfalso; exact hbad.elim (fun h => h h1) (fun h => by omega))

set_option maxHeartbeats 4000000 in
set_option maxRecDepth 100000 in
theorem rsolve_ok (n : Int) (l : List Ed) (ea : Option Addr) (m ec : Nat) (hm : m = l.length) (s t most : Int) (hck : checkE n l s t = 0) (hmo : 0 ≤ most ∧ most ≤ 9223372036854775807) (K0 : Nat) (R : List Int × Int × Int) (hR : slvR l n.toNat s t most K0 (List.replicate l.length 0) 0 0 = some R) (w0 : World) (sE : SliceIn w0 4 ea m ec (rowsF encEd l)) : FnC Try.prog 19 [.int .i64 n, .slice ea m ec, .int .i64 s, .int .i64 t, .int .i64 most] w0 fun v w' => ∃ a c, v = .tuple #[.slice a m c, .int .i64 R.2.1, .int .i64 R.2.2, .int .i64 0] ∧ w'.ownsRow w0.heap.size 3 1 (.slice a m c) m (cellsOf encI R.1) := by
  refine fnc (N := 124) Try.func19 rfl rfl rfl ?_
  refine WC.seq ?_
  refine WC.region ?_
  refine SL.pure rfl rfl rfl (PureOp.assign rfl) ?_
  refine SL.pure rfl rfl rfl (PureOp.assign rfl) ?_
  refine SL.pure rfl rfl rfl (PureOp.assign rfl) ?_
  refine SL.pure rfl rfl rfl (PureOp.assign rfl) ?_
  refine SL.nil_then ?_
  refine WC.seq ?_
  refine WC.region ?_
  refine SL.pure rfl rfl rfl (PureOp.move rfl) ?_
  refine SL.pure rfl rfl rfl (PureOp.move rfl) ?_
  refine SL.pure rfl rfl rfl (PureOp.move rfl) ?_
  refine SL.pure rfl rfl rfl (PureOp.move rfl) ?_
  refine SL.calle rfl rfl rfl rfl rfl rfl callable13 (fun w hw => rcheck_ok n l ea m ec hm s t w (sE.below hw.below)) ?_
  refine SL.norm [] rfl ?_
  refine SL.pure rfl rfl rfl (PureOp.assign rfl) ?_
  refine SL.nil_then ?_
  refine WC.seq ?_
  refine WC.seq ?_
  refine WC.region ?_
  refine SL.pure rfl rfl rfl (PureOp.move rfl) ?_
  refine SL.pure rfl rfl rfl (PureOp.neq rfl rfl) ?_
  refine SL.nil_then ?_
  refine WC.cond rfl (fun h1 => ?_) (fun h1 => ?_)
  · try simp only [Bool.and_eq_true, Bool.or_eq_true, Bool.not_eq_true', Bool.not_eq_false', Bool.and_eq_false_iff, Bool.or_eq_false_iff, decide_eq_true_eq, decide_eq_false_iff_not, Int.not_lt, Int.not_le, ne_eq, Decidable.not_not] at h1
    exact absurd hck h1
  · try simp only [Bool.and_eq_true, Bool.or_eq_true, Bool.not_eq_true', Bool.not_eq_false', Bool.and_eq_false_iff, Bool.or_eq_false_iff, decide_eq_true_eq, decide_eq_false_iff_not, Int.not_lt, Int.not_le, ne_eq, Decidable.not_not] at h1
    obtain ⟨hc, hE⟩ := check_ok (n := n) (l := l) (s := s) (t := t) (by assumption)
    obtain ⟨nu, rfl⟩ : ∃ k : Nat, n = (k : Int) := ⟨n.toNat, by omega⟩
    refine WC.skip ?_
    refine QX.then_ ?_
    refine WC.seq ?_
    refine WC.seq ?_
    refine WC.region ?_
    refine SL.pure rfl rfl rfl (PureOp.move rfl) ?_
    refine SL.pure rfl rfl rfl (PureOp.lss rfl rfl) ?_
    refine SL.nil_then ?_
    refine WC.cond rfl (fun h2 => ?_) (fun h2 => ?_)
    · try simp only [Bool.and_eq_true, Bool.or_eq_true, Bool.not_eq_true', Bool.not_eq_false', Bool.and_eq_false_iff, Bool.or_eq_false_iff, decide_eq_true_eq, decide_eq_false_iff_not, Int.not_lt, Int.not_le, ne_eq, Decidable.not_not] at h2
      exact absurd hmo.1 (by omega)
    · try simp only [Bool.and_eq_true, Bool.or_eq_true, Bool.not_eq_true', Bool.not_eq_false', Bool.and_eq_false_iff, Bool.or_eq_false_iff, decide_eq_true_eq, decide_eq_false_iff_not, Int.not_lt, Int.not_le, ne_eq, Decidable.not_not] at h2
      refine WC.skip ?_
      refine QX.then_ ?_
      refine WC.seq ?_
      refine WC.region ?_
      refine SL.pure rfl rfl rfl (PureOp.move rfl) ?_
      refine SL.pure rfl rfl rfl (PureOp.len rfl Try.underlying22) ?_
      refine SL.make rfl rfl Try.underlying29 elem3 rfl rfl (by omega) (by omega) (fun b1 hb1 => ?_)
      refine SL.itemxs 0 rfl (show _ = cellsOf encI (List.replicate l.length 0) from by rw [rep_int, hm]) ?_
      refine SL.norm [_] rfl ?_
      refine SL.pure rfl rfl rfl (PureOp.assign rfl) ?_
      refine SL.pure rfl rfl rfl (PureOp.assign rfl) ?_
      refine SL.pure rfl rfl rfl (PureOp.assign rfl) ?_
      refine SL.nil_then ?_
      refine WC.seq ?_
      refine WC.block ?_
      refine WC.loop (σ := Nat × List Int × Int × Int) (fun q_ => [(0, 0, .int .i64 ((nu : Nat) : Int)), (1, 0, .slice ea m ec), (2, 0, .int .i64 s), (3, 0, .int .i64 t), (4, 0, .int .i64 most), (10, 0, .slice none 0 0), (11, 0, .int .i64 0), (12, 0, .int .i64 0), (13, 0, .int .i64 0), (14, 0, .int .i64 (checkE (nu : Int) l s t)), (15, 0, .slice (some ⟨b1, 0, none⟩) m m), (22, 0, .int .i64 ((nu : Nat) : Int)), (23, 0, .slice ea m ec), (24, 0, .int .i64 s), (25, 0, .int .i64 t), (26, 0, .int .i64 (checkE (nu : Int) l s t)), (27, 0, .int .i64 (checkE (nu : Int) l s t)), (28, 0, .bool (decide (checkE (nu : Int) l s t ≠ 0))), (30, 0, .int .i64 most), (31, 0, .bool (decide (most < 0))), (32, 0, .slice ea m ec), (33, 0, .int .i64 ((m : Nat) : Int)), (34, 0, .slice (some ⟨b1, 0, none⟩) m m), (16, 0, .int .i64 q_.2.2.1), (17, 0, .int .i64 q_.2.2.2)]) (fun q_ => [Item.own w0.heap.size (some ⟨b1, 0, none⟩) m m 3 1 (cellsOf encI (q_.2.1))]) (fun q_ => slvR l nu s t most q_.1 q_.2.1 q_.2.2.1 q_.2.2.2 = some R ∧ withinB l q_.2.1 = true ∧ 0 ≤ q_.2.2.1) (fun q_ => q_.1) 1 ((K0, List.replicate l.length 0, 0, 0)) (⟨hR, within_zero hE, Int.le_refl _⟩) ⟨rfl, rfl, rfl, rfl, rfl, rfl, rfl, rfl, rfl, rfl, rfl, rfl, rfl, rfl, rfl, rfl, rfl, rfl, rfl, rfl, rfl, rfl, rfl, rfl, rfl, rfl, rfl, rfl, rfl, rfl, rfl, rfl, rfl, rfl, rfl, rfl, rfl, rfl, rfl, rfl, rfl, rfl, rfl, rfl, rfl, rfl, rfl, rfl, rfl, rfl, trivial⟩ rfl ?_
      rintro ⟨K, f, a, z⟩ ⟨hs, hwi, ha0⟩
      try dsimp only at *
      refine WC.seq ?_
      refine WC.seq ?_
      refine WC.region ?_
      refine SL.pure rfl rfl rfl (PureOp.move rfl) ?_
      refine SL.pure rfl rfl rfl (PureOp.move rfl) ?_
      refine SL.pure rfl rfl rfl (PureOp.lss rfl rfl) ?_
      refine SL.nil_then ?_
      refine WC.cond rfl (fun h3 => ?_) (fun h3 => ?_)
      · try simp only [Bool.and_eq_true, Bool.or_eq_true, Bool.not_eq_true', Bool.not_eq_false', Bool.and_eq_false_iff, Bool.or_eq_false_iff, decide_eq_true_eq, decide_eq_false_iff_not, Int.not_lt, Int.not_le, ne_eq, Decidable.not_not] at h3
        obtain ⟨Kp, pp, rfl, hpp, hp0, hp1⟩ := slvR_step hs h3
        have hWf := (within_ok hwi).2
        have hfl := (within_ok hwi).1
        have hSl := stepsK_len (l := l) (f := f) l.length
        have hSv := steps_ok_ hE hWf
        refine WC.skip ?_
        refine QX.then_ ?_
        refine WC.block ?_
        refine WC.seq ?_
        refine WC.region ?_
        refine SL.pure rfl rfl rfl (PureOp.move rfl) ?_
        refine SL.pure rfl rfl rfl (PureOp.move rfl) ?_
        refine SL.pure rfl rfl rfl (PureOp.move rfl) ?_
        refine SL.callo (fun za zc => .slice za ((stepsK l f l.length).length) zc) rfl rfl rfl rfl rfl rfl callable45 (fun w hw => steps_ok l ea m ec hm (by omega) f (some ⟨b1, 0, none⟩) m m (by omega) rfl hWf nu hE w (sE.below hw.below) (SliceIn.rows (l := f) (hw.mem (i := 0) rfl) encI_len (by omega))) (fun za zc => ?_)
        refine SL.norm [_, _] rfl ?_
        refine SL.pure rfl rfl rfl (PureOp.move rfl) ?_
        refine SL.pure rfl rfl rfl (PureOp.move rfl) ?_
        refine SL.callo (fun pa pc => .slice pa pp.length pc) rfl rfl rfl rfl rfl rfl callable44 (fun w hw => rpath_ok nu (stepsK l f l.length) za _ zc rfl (by omega) (fun x hx => ⟨(hSv x hx).1, (hSv x hx).2.1, (hSv x hx).2.2.1⟩) s t (by omega) (by omega) (by omega) (nu + 1) (by omega) pp hpp w (SliceIn.rows (hw.mem (i := 1) rfl) encSp_len (Nat.le_refl _))) (fun pa pc => ?_)
        refine SL.norm [_, _, _] rfl ?_
        refine SL.pure rfl rfl rfl (PureOp.assign rfl) ?_
        refine SL.nil_then ?_
        refine WC.seq ?_
        refine WC.seq ?_
        refine WC.region ?_
        refine SL.pure rfl rfl rfl (PureOp.move rfl) ?_
        refine SL.pure rfl rfl rfl (PureOp.len rfl Try.underlying70) ?_
        refine SL.pure rfl rfl rfl (PureOp.eql rfl rfl) ?_
        refine SL.nil_then ?_
        refine WC.cond rfl (fun h4 => ?_) (fun h4 => ?_)
        · try simp only [Bool.and_eq_true, Bool.or_eq_true, Bool.not_eq_true', Bool.not_eq_false', Bool.and_eq_false_iff, Bool.or_eq_false_iff, decide_eq_true_eq, decide_eq_false_iff_not, Int.not_lt, Int.not_le, ne_eq, Decidable.not_not] at h4
          refine WC.exit ?_
          refine QX.exit_then ?_
          refine QX.exit_miss rfl ?_
          refine QX.exit_then ?_
          refine QX.exit_hit ?_
          refine QX.then_ ?_
          refine WC.seq ?_
          refine WC.region ?_
          refine SL.pure rfl rfl rfl (PureOp.move rfl) ?_
          refine SL.pure rfl rfl rfl (PureOp.move rfl) ?_
          refine SL.pure rfl rfl rfl (PureOp.move rfl) ?_
          refine SL.pure rfl rfl rfl (PureOp.assign rfl) ?_
          refine SL.pure rfl rfl rfl (PureOp.assign rfl) ?_
          refine SL.pure rfl rfl rfl (PureOp.assign rfl) ?_
          refine SL.pure rfl rfl rfl (PureOp.assign rfl) ?_
          refine SL.nil_then ?_
          refine WC.ret ?_
          refine QX.retv rfl (RVs.cons (RV.tmp rfl) (RVs.cons (RV.tmp rfl) (RVs.cons (RV.tmp rfl) (RVs.cons (RV.tmp rfl) RVs.nil)))) ?_
          intro w hw
          have eR := hp0 (by omega)
          subst eR
          refine ⟨_, _, rfl, ?_⟩
          exact hw.mem (i := 0) rfl
        · try simp only [Bool.and_eq_true, Bool.or_eq_true, Bool.not_eq_true', Bool.not_eq_false', Bool.and_eq_false_iff, Bool.or_eq_false_iff, decide_eq_true_eq, decide_eq_false_iff_not, Int.not_lt, Int.not_le, ne_eq, Decidable.not_not] at h4
          obtain ⟨hg, hs2⟩ := hp1 (by omega)
          have hpm := rtr_mem _ _ _ _ hpp (by simp)
          have hpl : pp.length ≤ nu + 1 := by have h := hpm.2; simp at h; omega
          refine WC.skip ?_
          refine QX.then_ ?_
          refine WC.seq ?_
          refine WC.region ?_
          refine SL.pure rfl rfl rfl (PureOp.move rfl) ?_
          refine SL.pure rfl rfl rfl (PureOp.move rfl) ?_
          refine SL.pure rfl rfl rfl (PureOp.sub rfl rfl (fun _ => by omega)) ?_
          refine SL.pure rfl rfl rfl (PureOp.assign rfl) ?_
          refine SL.nil_then ?_
          refine WC.seq ?_
          refine WC.seq ?_
          refine WC.region ?_
          refine SL.pure rfl rfl rfl (PureOp.assign rfl) ?_
          refine SL.nil_then ?_
          refine WC.block ?_
          refine WC.loop (σ := Nat × Int) (fun q_ => [(0, 0, .int .i64 ((nu : Nat) : Int)), (1, 0, .slice ea m ec), (2, 0, .int .i64 s), (3, 0, .int .i64 t), (4, 0, .int .i64 most), (10, 0, .slice none 0 0), (11, 0, .int .i64 0), (12, 0, .int .i64 0), (13, 0, .int .i64 0), (14, 0, .int .i64 (checkE (nu : Int) l s t)), (15, 0, .slice (some ⟨b1, 0, none⟩) m m), (16, 0, .int .i64 a), (17, 0, .int .i64 z), (18, 0, .slice pa pp.length pc), (22, 0, .int .i64 ((nu : Nat) : Int)), (23, 0, .slice ea m ec), (24, 0, .int .i64 s), (25, 0, .int .i64 t), (26, 0, .int .i64 (checkE (nu : Int) l s t)), (27, 0, .int .i64 (checkE (nu : Int) l s t)), (28, 0, .bool (decide (checkE (nu : Int) l s t ≠ 0))), (30, 0, .int .i64 most), (31, 0, .bool (decide (most < 0))), (32, 0, .slice ea m ec), (33, 0, .int .i64 ((m : Nat) : Int)), (34, 0, .slice (some ⟨b1, 0, none⟩) m m), (35, 0, .int .i64 a), (36, 0, .int .i64 most), (37, 0, .bool (decide (a < most))), (38, 0, .int .i64 ((nu : Nat) : Int)), (39, 0, .slice ea m ec), (40, 0, .slice (some ⟨b1, 0, none⟩) m m), (41, 0, .slice za ((stepsK l f l.length).length) zc), (42, 0, .int .i64 s), (43, 0, .int .i64 t), (44, 0, .slice pa pp.length pc), (45, 0, .slice pa pp.length pc), (46, 0, .int .i64 ((pp.length : Nat) : Int)), (47, 0, .bool (decide (((pp.length : Nat) : Int) = 0))), (48, 0, .int .i64 most), (49, 0, .int .i64 a), (50, 0, .int .i64 (most - a)), (20, 0, .int .i64 ((q_.1 : Nat) : Int)), (19, 0, .int .i64 q_.2)]) (fun q_ => [Item.own w0.heap.size (some ⟨b1, 0, none⟩) m m 3 1 (cellsOf encI (f)), Item.own w0.heap.size za ((stepsK l f l.length).length) zc 74 6 (cellsOf encSp (stepsK l f l.length)), Item.own w0.heap.size pa pp.length pc 74 6 (cellsOf encSp pp)]) (fun q_ => q_.1 ≤ pp.length ∧ q_.2 = (pp.take q_.1).foldl minF (most - a)) (fun q_ => pp.length - q_.1) 3 ((0, most - a)) (⟨Nat.zero_le _, rfl⟩) ⟨rfl, rfl, rfl, rfl, rfl, rfl, rfl, rfl, rfl, rfl, rfl, rfl, rfl, rfl, rfl, rfl, rfl, rfl, rfl, rfl, rfl, rfl, rfl, rfl, rfl, rfl, rfl, rfl, rfl, rfl, rfl, rfl, rfl, rfl, rfl, rfl, rfl, rfl, rfl, rfl, rfl, rfl, rfl, rfl, rfl, rfl, rfl, rfl, rfl, rfl, rfl, rfl, rfl, rfl, rfl, rfl, rfl, rfl, rfl, rfl, rfl, rfl, rfl, rfl, rfl, rfl, rfl, rfl, rfl, rfl, rfl, rfl, rfl, rfl, rfl, rfl, rfl, rfl, rfl, rfl, rfl, rfl, rfl, rfl, rfl, rfl, rfl, rfl, trivial⟩ rfl ?_
          rintro ⟨i, y⟩ ⟨hi, hy⟩
          try dsimp only at *
          refine WC.seq ?_
          refine WC.seq ?_
          refine WC.region ?_
          refine SL.pure rfl rfl rfl (PureOp.move rfl) ?_
          refine SL.pure rfl rfl rfl (PureOp.move rfl) ?_
          refine SL.pure rfl rfl rfl (PureOp.len rfl Try.underlying70) ?_
          refine SL.pure rfl rfl rfl (PureOp.lss rfl rfl) ?_
          refine SL.nil_then ?_
          refine WC.cond rfl (fun h5 => ?_) (fun h5 => ?_)
          · try simp only [Bool.and_eq_true, Bool.or_eq_true, Bool.not_eq_true', Bool.not_eq_false', Bool.and_eq_false_iff, Bool.or_eq_false_iff, decide_eq_true_eq, decide_eq_false_iff_not, Int.not_lt, Int.not_le, ne_eq, Decidable.not_not] at h5
            refine WC.skip ?_
            refine QX.then_ ?_
            refine WC.seq ?_
            refine WC.block ?_
            refine WC.region ?_
            refine SL.pure rfl rfl rfl (PureOp.move rfl) ?_
            refine SL.pure rfl rfl rfl (PureOp.move rfl) ?_
            refine SL.pure rfl rfl rfl (PureOp.move rfl) ?_
            refine SL.pure rfl rfl rfl (PureOp.indexAddrN Try.underlying70 sz74 rfl rfl (AoOk.own 2 rfl) (fun _ => by omega)) ?_
            refine SL.pure rfl rfl rfl (PureOp.fieldAddr 3 Try.underlying74 rfl rfl sz3 rfl) ?_
            refine SL.pure rfl rfl rfl (PureOp.load (v := .int .i64 ((nth pp i).2.2.2.1)) Try.underlying3 rfl rfl (fun _ => (CellIs.ownc 2 rfl i 3 (by first | exact encI_get (by omega) | exact cellsOf_get encSp_len _ _ _ (by omega) (by decide))))) ?_
            refine SL.pure rfl rfl rfl (PureOp.min_ rfl rfl) ?_
            refine SL.pure rfl rfl rfl (PureOp.assign rfl) ?_
            refine SL.nil ?_
            refine QX.normal_in ?_
            refine QX.then_ ?_
            refine WC.region ?_
            refine SL.pure rfl rfl rfl (PureOp.move rfl) ?_
            refine SL.pure rfl rfl rfl (PureOp.addN (k := 1) rfl rfl (fun _ => by omega)) ?_
            refine SL.pure rfl rfl rfl (PureOp.assign rfl) ?_
            refine SL.nil ?_
            refine QX.round (σ := Nat × Int) (Ef := fun q_ => [(0, 0, .int .i64 ((nu : Nat) : Int)), (1, 0, .slice ea m ec), (2, 0, .int .i64 s), (3, 0, .int .i64 t), (4, 0, .int .i64 most), (10, 0, .slice none 0 0), (11, 0, .int .i64 0), (12, 0, .int .i64 0), (13, 0, .int .i64 0), (14, 0, .int .i64 (checkE (nu : Int) l s t)), (15, 0, .slice (some ⟨b1, 0, none⟩) m m), (16, 0, .int .i64 a), (17, 0, .int .i64 z), (18, 0, .slice pa pp.length pc), (22, 0, .int .i64 ((nu : Nat) : Int)), (23, 0, .slice ea m ec), (24, 0, .int .i64 s), (25, 0, .int .i64 t), (26, 0, .int .i64 (checkE (nu : Int) l s t)), (27, 0, .int .i64 (checkE (nu : Int) l s t)), (28, 0, .bool (decide (checkE (nu : Int) l s t ≠ 0))), (30, 0, .int .i64 most), (31, 0, .bool (decide (most < 0))), (32, 0, .slice ea m ec), (33, 0, .int .i64 ((m : Nat) : Int)), (34, 0, .slice (some ⟨b1, 0, none⟩) m m), (35, 0, .int .i64 a), (36, 0, .int .i64 most), (37, 0, .bool (decide (a < most))), (38, 0, .int .i64 ((nu : Nat) : Int)), (39, 0, .slice ea m ec), (40, 0, .slice (some ⟨b1, 0, none⟩) m m), (41, 0, .slice za ((stepsK l f l.length).length) zc), (42, 0, .int .i64 s), (43, 0, .int .i64 t), (44, 0, .slice pa pp.length pc), (45, 0, .slice pa pp.length pc), (46, 0, .int .i64 ((pp.length : Nat) : Int)), (47, 0, .bool (decide (((pp.length : Nat) : Int) = 0))), (48, 0, .int .i64 most), (49, 0, .int .i64 a), (50, 0, .int .i64 (most - a)), (20, 0, .int .i64 ((q_.1 : Nat) : Int)), (19, 0, .int .i64 q_.2)]) (Hf := fun q_ => [Item.own w0.heap.size (some ⟨b1, 0, none⟩) m m 3 1 (cellsOf encI (f)), Item.own w0.heap.size za ((stepsK l f l.length).length) zc 74 6 (cellsOf encSp (stepsK l f l.length)), Item.own w0.heap.size pa pp.length pc 74 6 (cellsOf encSp pp)]) (I := fun q_ => q_.1 ≤ pp.length ∧ q_.2 = (pp.take q_.1).foldl minF (most - a)) (μ := fun q_ => pp.length - q_.1) (s := (i, y)) 3 ((i + 1, min y (nth pp i).2.2.2.1)) ⟨⟨(by first | omega | (dsimp only; omega)), by rw [foldl_take (by omega), ← hy]; rfl⟩, by first | omega | (dsimp only; omega)⟩ ⟨rfl, rfl, rfl, rfl, rfl, rfl, rfl, rfl, rfl, rfl, rfl, rfl, rfl, rfl, rfl, rfl, rfl, rfl, rfl, rfl, rfl, rfl, rfl, rfl, rfl, rfl, rfl, rfl, rfl, rfl, rfl, rfl, rfl, rfl, rfl, rfl, rfl, rfl, rfl, rfl, rfl, rfl, rfl, rfl, rfl, rfl, rfl, rfl, rfl, rfl, rfl, rfl, rfl, rfl, rfl, rfl, rfl, rfl, rfl, rfl, rfl, rfl, rfl, rfl, rfl, rfl, rfl, rfl, rfl, rfl, rfl, rfl, rfl, rfl, rfl, rfl, rfl, rfl, rfl, rfl, rfl, rfl, rfl, rfl, rfl, rfl, rfl, rfl, trivial⟩ rfl
          · try simp only [Bool.and_eq_true, Bool.or_eq_true, Bool.not_eq_true', Bool.not_eq_false', Bool.and_eq_false_iff, Bool.or_eq_false_iff, decide_eq_true_eq, decide_eq_false_iff_not, Int.not_lt, Int.not_le, ne_eq, Decidable.not_not] at h5
            have ei : i = pp.length := by omega
            have ey : y = pp.foldl minF (most - a) := by rw [hy, ei, List.take_length]
            rw [← ey] at hg hs2
            refine WC.exit ?_
            refine QX.exit_then ?_
            refine QX.exit_then ?_
            refine QX.exit_hit ?_
            refine QX.then_ ?_
            refine WC.seq ?_
            refine WC.seq ?_
            refine WC.region ?_
            refine SL.pure rfl rfl rfl (PureOp.assign rfl) ?_
            refine SL.nil_then ?_
            refine WC.block ?_
            refine WC.loop (σ := Nat × List Int × Int) (fun q_ => [(0, 0, .int .i64 ((nu : Nat) : Int)), (1, 0, .slice ea m ec), (2, 0, .int .i64 s), (3, 0, .int .i64 t), (4, 0, .int .i64 most), (10, 0, .slice none 0 0), (11, 0, .int .i64 0), (12, 0, .int .i64 0), (13, 0, .int .i64 0), (14, 0, .int .i64 (checkE (nu : Int) l s t)), (15, 0, .slice (some ⟨b1, 0, none⟩) m m), (16, 0, .int .i64 a), (18, 0, .slice pa pp.length pc), (19, 0, .int .i64 y), (20, 0, .int .i64 ((i : Nat) : Int)), (22, 0, .int .i64 ((nu : Nat) : Int)), (23, 0, .slice ea m ec), (24, 0, .int .i64 s), (25, 0, .int .i64 t), (26, 0, .int .i64 (checkE (nu : Int) l s t)), (27, 0, .int .i64 (checkE (nu : Int) l s t)), (28, 0, .bool (decide (checkE (nu : Int) l s t ≠ 0))), (30, 0, .int .i64 most), (31, 0, .bool (decide (most < 0))), (32, 0, .slice ea m ec), (33, 0, .int .i64 ((m : Nat) : Int)), (34, 0, .slice (some ⟨b1, 0, none⟩) m m), (35, 0, .int .i64 a), (36, 0, .int .i64 most), (37, 0, .bool (decide (a < most))), (38, 0, .int .i64 ((nu : Nat) : Int)), (39, 0, .slice ea m ec), (40, 0, .slice (some ⟨b1, 0, none⟩) m m), (41, 0, .slice za ((stepsK l f l.length).length) zc), (42, 0, .int .i64 s), (43, 0, .int .i64 t), (44, 0, .slice pa pp.length pc), (45, 0, .slice pa pp.length pc), (46, 0, .int .i64 ((pp.length : Nat) : Int)), (47, 0, .bool (decide (((pp.length : Nat) : Int) = 0))), (48, 0, .int .i64 most), (49, 0, .int .i64 a), (50, 0, .int .i64 (most - a)), (51, 0, .int .i64 ((i : Nat) : Int)), (52, 0, .slice pa pp.length pc), (53, 0, .int .i64 ((pp.length : Nat) : Int)), (54, 0, .bool (decide (((i : Nat) : Int) < ((pp.length : Nat) : Int)))), (21, 0, .int .i64 ((q_.1 : Nat) : Int)), (17, 0, .int .i64 q_.2.2)]) (fun q_ => [Item.own w0.heap.size (some ⟨b1, 0, none⟩) m m 3 1 (cellsOf encI (q_.2.1)), Item.own w0.heap.size za ((stepsK l f l.length).length) zc 74 6 (cellsOf encSp (stepsK l f l.length)), Item.own w0.heap.size pa pp.length pc 74 6 (cellsOf encSp pp)]) (fun q_ => (q_.1 ≤ pp.length ∧ q_.2.1.length = m) ∧ q_.2.1 = (pp.take q_.1).foldl (updF y) f ∧ q_.2.2 = (pp.take q_.1).foldl (cosF y) z ∧ (∀ j, j < q_.2.1.length → -(65536 + ((q_.1 : Nat) : Int) * 65536) ≤ nth q_.2.1 j ∧ nth q_.2.1 j ≤ 65536 + ((q_.1 : Nat) : Int) * 65536) ∧ -(1152921504606846976 + ((q_.1 : Nat) : Int) * 281474976710656) ≤ q_.2.2 ∧ q_.2.2 ≤ 1152921504606846976 + ((q_.1 : Nat) : Int) * 281474976710656) (fun q_ => pp.length - q_.1) 3 ((0, f, z)) (⟨⟨Nat.zero_le _, by dsimp only; omega⟩, rfl, rfl, fun j hj => by have h := hWf j (by dsimp only at hj; omega); have h2 := hE j (by dsimp only at hj; omega); dsimp only; omega, by dsimp only; omega, by dsimp only; omega⟩) ⟨rfl, rfl, rfl, rfl, rfl, rfl, rfl, rfl, rfl, rfl, rfl, rfl, rfl, rfl, rfl, rfl, rfl, rfl, rfl, rfl, rfl, rfl, rfl, rfl, rfl, rfl, rfl, rfl, rfl, rfl, rfl, rfl, rfl, rfl, rfl, rfl, rfl, rfl, rfl, rfl, rfl, rfl, rfl, rfl, rfl, rfl, rfl, rfl, rfl, rfl, rfl, rfl, rfl, rfl, rfl, rfl, rfl, rfl, rfl, rfl, rfl, rfl, rfl, rfl, rfl, rfl, rfl, rfl, rfl, rfl, rfl, rfl, rfl, rfl, rfl, rfl, rfl, rfl, rfl, rfl, rfl, rfl, rfl, rfl, rfl, rfl, rfl, rfl, rfl, rfl, rfl, rfl, rfl, rfl, rfl, rfl, rfl, rfl, trivial⟩ rfl ?_
            rintro ⟨i2, g, zz⟩ ⟨⟨hi2, hgl⟩, hgg, hzz, hgb, hz1, hz2⟩
            try dsimp only at *
            refine WC.seq ?_
            refine WC.seq ?_
            refine WC.region ?_
            refine SL.pure rfl rfl rfl (PureOp.move rfl) ?_
            refine SL.pure rfl rfl rfl (PureOp.move rfl) ?_
            refine SL.pure rfl rfl rfl (PureOp.len rfl Try.underlying70) ?_
            refine SL.pure rfl rfl rfl (PureOp.lss rfl rfl) ?_
            refine SL.nil_then ?_
            refine WC.cond rfl (fun h6 => ?_) (fun h6 => ?_)
            · try simp only [Bool.and_eq_true, Bool.or_eq_true, Bool.not_eq_true', Bool.not_eq_false', Bool.and_eq_false_iff, Bool.or_eq_false_iff, decide_eq_true_eq, decide_eq_false_iff_not, Int.not_lt, Int.not_le, ne_eq, Decidable.not_not] at h6
              have hPi := hSv (nth pp i2) (hpm.1 _ (nth_mem (by omega)))
              have hgi := hgb (nth pp i2).2.2.2.2.1.toNat (by omega)
              have hMl := mul_bd2 (A := 65536) (B := 4294967296) (b := (nth pp i2).2.2.1) hg.1 hg.2.1 hPi.2.2.1.1 hPi.2.2.1.2
              refine WC.skip ?_
              refine QX.then_ ?_
              refine WC.seq ?_
              refine WC.block ?_
              refine WC.seq ?_
              refine WC.seq ?_
              refine WC.region ?_
              refine SL.pure rfl rfl rfl (PureOp.move rfl) ?_
              refine SL.pure rfl rfl rfl (PureOp.move rfl) ?_
              refine SL.pure rfl rfl rfl (PureOp.indexAddrN Try.underlying70 sz74 rfl rfl (AoOk.own 2 rfl) (fun _ => by omega)) ?_
              refine SL.pure rfl rfl rfl (PureOp.fieldAddr 5 Try.underlying74 rfl rfl sz4 rfl) ?_
              refine SL.pure rfl rfl rfl (PureOp.load (v := .bool ((nth pp i2).2.2.2.2.2)) Try.underlying4 rfl rfl (fun _ => (CellIs.ownc 2 rfl i2 5 (by first | exact encI_get (by omega) | exact cellsOf_get encSp_len _ _ _ (by omega) (by decide))))) ?_
              refine SL.nil_then ?_
              refine WC.cond rfl (fun h7 => ?_) (fun h7 => ?_)
              · try simp only [Bool.and_eq_true, Bool.or_eq_true, Bool.not_eq_true', Bool.not_eq_false', Bool.and_eq_false_iff, Bool.or_eq_false_iff, decide_eq_true_eq, decide_eq_false_iff_not, Int.not_lt, Int.not_le, ne_eq, Decidable.not_not] at h7
                refine WC.drawh ([Item.triv, Item.own w0.heap.size za ((stepsK l f l.length).length) zc 74 6 (cellsOf encSp (stepsK l f l.length)), Item.own w0.heap.size pa pp.length pc 74 6 (cellsOf encSp pp)]) 18 [false, false, false, false, false, false, false, false, false, false, false, false, false, false, false, false, false, false] rfl rfl rfl ?_
                refine SD.take 0 [true, false, false, false, false, false, false, false, false, false, false, false, false, false, false, false, false, false] rfl (by kernel_rfl) rfl (fun _ h => (HeapOk.settriv h (i := 0) rfl)) rfl rfl rfl (PureOp.move rfl) ?_
                refine SD.take 1 [true, true, false, false, false, false, false, false, false, false, false, false, false, false, false, false, false, false] rfl (by kernel_rfl) rfl (fun _ h => (HeapOk.settriv h (i := 0) rfl)) rfl rfl rfl (PureOp.move rfl) ?_
                refine SD.take 2 [true, true, true, false, false, false, false, false, false, false, false, false, false, false, false, false, false, false] rfl (by kernel_rfl) rfl (fun _ h => (HeapOk.settriv h (i := 0) rfl)) rfl rfl rfl (PureOp.move rfl) ?_
                refine SD.take 3 [true, true, true, true, false, false, false, false, false, false, false, false, false, false, false, false, false, false] rfl (by kernel_rfl) rfl (fun _ h => (HeapOk.settriv h (i := 0) rfl)) rfl rfl rfl (PureOp.indexAddrN Try.underlying70 sz74 rfl rfl (AoOk.own 2 rfl) (fun _ => by omega)) ?_
                refine SD.take 4 [true, true, true, true, true, false, false, false, false, false, false, false, false, false, false, false, false, false] rfl (by kernel_rfl) rfl (fun _ h => (HeapOk.settriv h (i := 0) rfl)) rfl rfl rfl (PureOp.fieldAddr 4 Try.underlying74 rfl rfl sz3 rfl) ?_
                refine SD.take 5 [true, true, true, true, true, true, false, false, false, false, false, false, false, false, false, false, false, false] rfl (by kernel_rfl) rfl (fun _ h => (HeapOk.settriv h (i := 0) rfl)) rfl rfl rfl (PureOp.load (v := .int .i64 ((nth pp i2).2.2.2.2.1)) Try.underlying3 rfl rfl (fun _ => (CellIs.ownc 2 rfl i2 4 (by first | exact encI_get (by omega) | exact cellsOf_get encSp_len _ _ _ (by omega) (by decide))))) ?_
                refine SD.take 6 [true, true, true, true, true, true, true, false, false, false, false, false, false, false, false, false, false, false] rfl (by kernel_rfl) rfl (fun _ h => (HeapOk.settriv h (i := 0) rfl)) rfl rfl rfl (PureOp.move rfl) ?_
                refine SD.take 7 [true, true, true, true, true, true, true, true, false, false, false, false, false, false, false, false, false, false] rfl (by kernel_rfl) rfl (fun _ h => (HeapOk.settriv h (i := 0) rfl)) rfl rfl rfl (PureOp.move rfl) ?_
                refine SD.take 8 [true, true, true, true, true, true, true, true, true, false, false, false, false, false, false, false, false, false] rfl (by kernel_rfl) rfl (fun _ h => (HeapOk.settriv h (i := 0) rfl)) rfl rfl rfl (PureOp.move rfl) ?_
                refine SD.take 9 [true, true, true, true, true, true, true, true, true, true, false, false, false, false, false, false, false, false] rfl (by kernel_rfl) rfl (fun _ h => (HeapOk.settriv h (i := 0) rfl)) rfl rfl rfl (PureOp.indexAddrN Try.underlying70 sz74 rfl rfl (AoOk.own 2 rfl) (fun _ => by omega)) ?_
                refine SD.take 10 [true, true, true, true, true, true, true, true, true, true, true, false, false, false, false, false, false, false] rfl (by kernel_rfl) rfl (fun _ h => (HeapOk.settriv h (i := 0) rfl)) rfl rfl rfl (PureOp.fieldAddr 4 Try.underlying74 rfl rfl sz3 rfl) ?_
                refine SD.take 11 [true, true, true, true, true, true, true, true, true, true, true, true, false, false, false, false, false, false] rfl (by kernel_rfl) rfl (fun _ h => (HeapOk.settriv h (i := 0) rfl)) rfl rfl rfl (PureOp.load (v := .int .i64 ((nth pp i2).2.2.2.2.1)) Try.underlying3 rfl rfl (fun _ => (CellIs.ownc 2 rfl i2 4 (by first | exact encI_get (by omega) | exact cellsOf_get encSp_len _ _ _ (by omega) (by decide))))) ?_
                refine SD.take 12 [true, true, true, true, true, true, true, true, true, true, true, true, true, false, false, false, false, false] rfl (by kernel_rfl) rfl (fun _ h => (HeapOk.settriv h (i := 0) rfl)) rfl rfl rfl (PureOp.indexAddr Try.underlying29 sz3 rfl rfl AoOk.lit (fun _ => by omega)) ?_
                refine SD.take 14 [true, true, true, true, true, true, true, true, true, true, true, true, true, false, true, false, false, false] rfl (by kernel_rfl) rfl (fun _ h => (HeapOk.settriv h (i := 0) rfl)) rfl rfl rfl (PureOp.move rfl) ?_
                refine SD.one 13 [true, true, true, true, true, true, true, true, true, true, true, true, true, true, true, false, false, false] (by kernel_rfl) rfl rfl ?_
                refine SL.pure rfl rfl rfl (PureOp.load (v := .int .i64 (nth g (((nth pp i2).2.2.2.2.1).toNat))) Try.underlying3 rfl rfl (fun _ => (CellIs.ownc 0 rfl (((nth pp i2).2.2.2.2.1).toNat) 0 (by first | exact encI_get (by omega) | exact cellsOf_get encSp_len _ _ _ (by omega) (by decide))))) ?_
                refine SD.back (fun _ h => (HeapOk.settriv h (i := 0) rfl)) ?_
                refine SD.take 15 [true, true, true, true, true, true, true, true, true, true, true, true, true, true, true, true, false, false] rfl (by kernel_rfl) rfl (fun _ h => (HeapOk.settriv h (i := 0) rfl)) rfl rfl rfl (PureOp.sub rfl rfl (fun _ => by omega)) ?_
                refine SD.take 16 [true, true, true, true, true, true, true, true, true, true, true, true, true, true, true, true, true, false] rfl (by kernel_rfl) rfl (fun _ h => (HeapOk.settriv h (i := 0) rfl)) rfl rfl rfl (PureOp.indexAddr Try.underlying29 sz3 rfl rfl AoOk.lit (fun _ => by omega)) ?_
                refine SD.one 17 [true, true, true, true, true, true, true, true, true, true, true, true, true, true, true, true, true, true] (by kernel_rfl) rfl rfl ?_
                refine SL.storeown (k := (((nth pp i2).2.2.2.2.1).toNat)) (j := 0) 0 rfl rfl rfl rfl sz3 (by rw [cellsOf_length encI_len]; omega) rfl ?_
                refine SL.itemxs 0 rfl (show _ = cellsOf encI (updF y g (nth pp i2)) from by rw [encI_set (by omega), updF, if_pos h7]) ?_
                refine SL.norm [_, _, _] rfl ?_
                refine SD.back (fun _ h => (HeapOk.settriv h (i := 0) rfl)) ?_
                refine SD.done (by kernel_rfl) ?_
                refine QX.ofK ?_
                refine QX.then_ ?_
                refine WC.region ?_
                refine SL.pure rfl rfl rfl (PureOp.move rfl) ?_
                refine SL.pure rfl rfl rfl (PureOp.move rfl) ?_
                refine SL.pure rfl rfl rfl (PureOp.move rfl) ?_
                refine SL.pure rfl rfl rfl (PureOp.move rfl) ?_
                refine SL.pure rfl rfl rfl (PureOp.indexAddrN Try.underlying70 sz74 rfl rfl (AoOk.own 2 rfl) (fun _ => by omega)) ?_
                refine SL.pure rfl rfl rfl (PureOp.fieldAddr 2 Try.underlying74 rfl rfl sz3 rfl) ?_
                refine SL.pure rfl rfl rfl (PureOp.load (v := .int .i64 ((nth pp i2).2.2.1)) Try.underlying3 rfl rfl (fun _ => (CellIs.ownc 2 rfl i2 2 (by first | exact encI_get (by omega) | exact cellsOf_get encSp_len _ _ _ (by omega) (by decide))))) ?_
                refine SL.pure rfl rfl rfl (PureOp.mul rfl rfl (fun _ => by omega)) ?_
                refine SL.pure rfl rfl rfl (PureOp.add rfl rfl (fun _ => by omega)) ?_
                refine SL.pure rfl rfl rfl (PureOp.assign rfl) ?_
                refine SL.nil ?_
                refine QX.normal_in ?_
                refine QX.then_ ?_
                refine WC.region ?_
                refine SL.pure rfl rfl rfl (PureOp.move rfl) ?_
                refine SL.pure rfl rfl rfl (PureOp.addN (k := 1) rfl rfl (fun _ => by omega)) ?_
                refine SL.pure rfl rfl rfl (PureOp.assign rfl) ?_
                refine SL.nil ?_
                refine QX.round (σ := Nat × List Int × Int) (Ef := fun q_ => [(0, 0, .int .i64 ((nu : Nat) : Int)), (1, 0, .slice ea m ec), (2, 0, .int .i64 s), (3, 0, .int .i64 t), (4, 0, .int .i64 most), (10, 0, .slice none 0 0), (11, 0, .int .i64 0), (12, 0, .int .i64 0), (13, 0, .int .i64 0), (14, 0, .int .i64 (checkE (nu : Int) l s t)), (15, 0, .slice (some ⟨b1, 0, none⟩) m m), (16, 0, .int .i64 a), (18, 0, .slice pa pp.length pc), (19, 0, .int .i64 y), (20, 0, .int .i64 ((i : Nat) : Int)), (22, 0, .int .i64 ((nu : Nat) : Int)), (23, 0, .slice ea m ec), (24, 0, .int .i64 s), (25, 0, .int .i64 t), (26, 0, .int .i64 (checkE (nu : Int) l s t)), (27, 0, .int .i64 (checkE (nu : Int) l s t)), (28, 0, .bool (decide (checkE (nu : Int) l s t ≠ 0))), (30, 0, .int .i64 most), (31, 0, .bool (decide (most < 0))), (32, 0, .slice ea m ec), (33, 0, .int .i64 ((m : Nat) : Int)), (34, 0, .slice (some ⟨b1, 0, none⟩) m m), (35, 0, .int .i64 a), (36, 0, .int .i64 most), (37, 0, .bool (decide (a < most))), (38, 0, .int .i64 ((nu : Nat) : Int)), (39, 0, .slice ea m ec), (40, 0, .slice (some ⟨b1, 0, none⟩) m m), (41, 0, .slice za ((stepsK l f l.length).length) zc), (42, 0, .int .i64 s), (43, 0, .int .i64 t), (44, 0, .slice pa pp.length pc), (45, 0, .slice pa pp.length pc), (46, 0, .int .i64 ((pp.length : Nat) : Int)), (47, 0, .bool (decide (((pp.length : Nat) : Int) = 0))), (48, 0, .int .i64 most), (49, 0, .int .i64 a), (50, 0, .int .i64 (most - a)), (51, 0, .int .i64 ((i : Nat) : Int)), (52, 0, .slice pa pp.length pc), (53, 0, .int .i64 ((pp.length : Nat) : Int)), (54, 0, .bool (decide (((i : Nat) : Int) < ((pp.length : Nat) : Int)))), (21, 0, .int .i64 ((q_.1 : Nat) : Int)), (17, 0, .int .i64 q_.2.2)]) (Hf := fun q_ => [Item.own w0.heap.size (some ⟨b1, 0, none⟩) m m 3 1 (cellsOf encI (q_.2.1)), Item.own w0.heap.size za ((stepsK l f l.length).length) zc 74 6 (cellsOf encSp (stepsK l f l.length)), Item.own w0.heap.size pa pp.length pc 74 6 (cellsOf encSp pp)]) (I := fun q_ => (q_.1 ≤ pp.length ∧ q_.2.1.length = m) ∧ q_.2.1 = (pp.take q_.1).foldl (updF y) f ∧ q_.2.2 = (pp.take q_.1).foldl (cosF y) z ∧ (∀ j, j < q_.2.1.length → -(65536 + ((q_.1 : Nat) : Int) * 65536) ≤ nth q_.2.1 j ∧ nth q_.2.1 j ≤ 65536 + ((q_.1 : Nat) : Int) * 65536) ∧ -(1152921504606846976 + ((q_.1 : Nat) : Int) * 281474976710656) ≤ q_.2.2 ∧ q_.2.2 ≤ 1152921504606846976 + ((q_.1 : Nat) : Int) * 281474976710656) (μ := fun q_ => pp.length - q_.1) (s := (i2, g, zz)) 3 ((i2 + 1, updF y g (nth pp i2), zz + y * (nth pp i2).2.2.1)) ⟨⟨⟨(by first | omega | (dsimp only; omega)), by rw [updF_len]; exact hgl⟩, by rw [foldl_take (by omega), ← hgg], by rw [foldl_take (by omega), ← hzz]; rfl, fun j hj => by have h := updF_bd (x := (nth pp i2)) ⟨hg.1, hg.2.1⟩ hgb j hj; dsimp only at h ⊢; omega, by dsimp only; omega, by dsimp only; omega⟩, by first | omega | (dsimp only; omega)⟩ ⟨rfl, rfl, rfl, rfl, rfl, rfl, rfl, rfl, rfl, rfl, rfl, rfl, rfl, rfl, rfl, rfl, rfl, rfl, rfl, rfl, rfl, rfl, rfl, rfl, rfl, rfl, rfl, rfl, rfl, rfl, rfl, rfl, rfl, rfl, rfl, rfl, rfl, rfl, rfl, rfl, rfl, rfl, rfl, rfl, rfl, rfl, rfl, rfl, rfl, rfl, rfl, rfl, rfl, rfl, rfl, rfl, rfl, rfl, rfl, rfl, rfl, rfl, rfl, rfl, rfl, rfl, rfl, rfl, rfl, rfl, rfl, rfl, rfl, rfl, rfl, rfl, rfl, rfl, rfl, rfl, rfl, rfl, rfl, rfl, rfl, rfl, rfl, rfl, rfl, rfl, rfl, rfl, rfl, rfl, rfl, rfl, rfl, rfl, trivial⟩ rfl
              · try simp only [Bool.and_eq_true, Bool.or_eq_true, Bool.not_eq_true', Bool.not_eq_false', Bool.and_eq_false_iff, Bool.or_eq_false_iff, decide_eq_true_eq, decide_eq_false_iff_not, Int.not_lt, Int.not_le, ne_eq, Decidable.not_not] at h7
                refine WC.drawh ([Item.triv, Item.own w0.heap.size za ((stepsK l f l.length).length) zc 74 6 (cellsOf encSp (stepsK l f l.length)), Item.own w0.heap.size pa pp.length pc 74 6 (cellsOf encSp pp)]) 18 [false, false, false, false, false, false, false, false, false, false, false, false, false, false, false, false, false, false] rfl rfl rfl ?_
                refine SD.take 0 [true, false, false, false, false, false, false, false, false, false, false, false, false, false, false, false, false, false] rfl (by kernel_rfl) rfl (fun _ h => (HeapOk.settriv h (i := 0) rfl)) rfl rfl rfl (PureOp.move rfl) ?_
                refine SD.take 1 [true, true, false, false, false, false, false, false, false, false, false, false, false, false, false, false, false, false] rfl (by kernel_rfl) rfl (fun _ h => (HeapOk.settriv h (i := 0) rfl)) rfl rfl rfl (PureOp.move rfl) ?_
                refine SD.take 2 [true, true, true, false, false, false, false, false, false, false, false, false, false, false, false, false, false, false] rfl (by kernel_rfl) rfl (fun _ h => (HeapOk.settriv h (i := 0) rfl)) rfl rfl rfl (PureOp.move rfl) ?_
                refine SD.take 3 [true, true, true, true, false, false, false, false, false, false, false, false, false, false, false, false, false, false] rfl (by kernel_rfl) rfl (fun _ h => (HeapOk.settriv h (i := 0) rfl)) rfl rfl rfl (PureOp.indexAddrN Try.underlying70 sz74 rfl rfl (AoOk.own 2 rfl) (fun _ => by omega)) ?_
                refine SD.take 4 [true, true, true, true, true, false, false, false, false, false, false, false, false, false, false, false, false, false] rfl (by kernel_rfl) rfl (fun _ h => (HeapOk.settriv h (i := 0) rfl)) rfl rfl rfl (PureOp.fieldAddr 4 Try.underlying74 rfl rfl sz3 rfl) ?_
                refine SD.take 5 [true, true, true, true, true, true, false, false, false, false, false, false, false, false, false, false, false, false] rfl (by kernel_rfl) rfl (fun _ h => (HeapOk.settriv h (i := 0) rfl)) rfl rfl rfl (PureOp.load (v := .int .i64 ((nth pp i2).2.2.2.2.1)) Try.underlying3 rfl rfl (fun _ => (CellIs.ownc 2 rfl i2 4 (by first | exact encI_get (by omega) | exact cellsOf_get encSp_len _ _ _ (by omega) (by decide))))) ?_
                refine SD.take 6 [true, true, true, true, true, true, true, false, false, false, false, false, false, false, false, false, false, false] rfl (by kernel_rfl) rfl (fun _ h => (HeapOk.settriv h (i := 0) rfl)) rfl rfl rfl (PureOp.move rfl) ?_
                refine SD.take 7 [true, true, true, true, true, true, true, true, false, false, false, false, false, false, false, false, false, false] rfl (by kernel_rfl) rfl (fun _ h => (HeapOk.settriv h (i := 0) rfl)) rfl rfl rfl (PureOp.move rfl) ?_
                refine SD.take 8 [true, true, true, true, true, true, true, true, true, false, false, false, false, false, false, false, false, false] rfl (by kernel_rfl) rfl (fun _ h => (HeapOk.settriv h (i := 0) rfl)) rfl rfl rfl (PureOp.move rfl) ?_
                refine SD.take 9 [true, true, true, true, true, true, true, true, true, true, false, false, false, false, false, false, false, false] rfl (by kernel_rfl) rfl (fun _ h => (HeapOk.settriv h (i := 0) rfl)) rfl rfl rfl (PureOp.indexAddrN Try.underlying70 sz74 rfl rfl (AoOk.own 2 rfl) (fun _ => by omega)) ?_
                refine SD.take 10 [true, true, true, true, true, true, true, true, true, true, true, false, false, false, false, false, false, false] rfl (by kernel_rfl) rfl (fun _ h => (HeapOk.settriv h (i := 0) rfl)) rfl rfl rfl (PureOp.fieldAddr 4 Try.underlying74 rfl rfl sz3 rfl) ?_
                refine SD.take 11 [true, true, true, true, true, true, true, true, true, true, true, true, false, false, false, false, false, false] rfl (by kernel_rfl) rfl (fun _ h => (HeapOk.settriv h (i := 0) rfl)) rfl rfl rfl (PureOp.load (v := .int .i64 ((nth pp i2).2.2.2.2.1)) Try.underlying3 rfl rfl (fun _ => (CellIs.ownc 2 rfl i2 4 (by first | exact encI_get (by omega) | exact cellsOf_get encSp_len _ _ _ (by omega) (by decide))))) ?_
                refine SD.take 12 [true, true, true, true, true, true, true, true, true, true, true, true, true, false, false, false, false, false] rfl (by kernel_rfl) rfl (fun _ h => (HeapOk.settriv h (i := 0) rfl)) rfl rfl rfl (PureOp.indexAddr Try.underlying29 sz3 rfl rfl AoOk.lit (fun _ => by omega)) ?_
                refine SD.take 14 [true, true, true, true, true, true, true, true, true, true, true, true, true, false, true, false, false, false] rfl (by kernel_rfl) rfl (fun _ h => (HeapOk.settriv h (i := 0) rfl)) rfl rfl rfl (PureOp.move rfl) ?_
                refine SD.one 13 [true, true, true, true, true, true, true, true, true, true, true, true, true, true, true, false, false, false] (by kernel_rfl) rfl rfl ?_
                refine SL.pure rfl rfl rfl (PureOp.load (v := .int .i64 (nth g (((nth pp i2).2.2.2.2.1).toNat))) Try.underlying3 rfl rfl (fun _ => (CellIs.ownc 0 rfl (((nth pp i2).2.2.2.2.1).toNat) 0 (by first | exact encI_get (by omega) | exact cellsOf_get encSp_len _ _ _ (by omega) (by decide))))) ?_
                refine SD.back (fun _ h => (HeapOk.settriv h (i := 0) rfl)) ?_
                refine SD.take 15 [true, true, true, true, true, true, true, true, true, true, true, true, true, true, true, true, false, false] rfl (by kernel_rfl) rfl (fun _ h => (HeapOk.settriv h (i := 0) rfl)) rfl rfl rfl (PureOp.add rfl rfl (fun _ => by omega)) ?_
                refine SD.take 16 [true, true, true, true, true, true, true, true, true, true, true, true, true, true, true, true, true, false] rfl (by kernel_rfl) rfl (fun _ h => (HeapOk.settriv h (i := 0) rfl)) rfl rfl rfl (PureOp.indexAddr Try.underlying29 sz3 rfl rfl AoOk.lit (fun _ => by omega)) ?_
                refine SD.one 17 [true, true, true, true, true, true, true, true, true, true, true, true, true, true, true, true, true, true] (by kernel_rfl) rfl rfl ?_
                refine SL.storeown (k := (((nth pp i2).2.2.2.2.1).toNat)) (j := 0) 0 rfl rfl rfl rfl sz3 (by rw [cellsOf_length encI_len]; omega) rfl ?_
                refine SL.itemxs 0 rfl (show _ = cellsOf encI (updF y g (nth pp i2)) from by rw [encI_set (by omega), updF, if_neg (by rw [h7]; decide)]) ?_
                refine SL.norm [_, _, _] rfl ?_
                refine SD.back (fun _ h => (HeapOk.settriv h (i := 0) rfl)) ?_
                refine SD.done (by kernel_rfl) ?_
                refine QX.ofK ?_
                refine QX.then_ ?_
                refine WC.region ?_
                refine SL.pure rfl rfl rfl (PureOp.move rfl) ?_
                refine SL.pure rfl rfl rfl (PureOp.move rfl) ?_
                refine SL.pure rfl rfl rfl (PureOp.move rfl) ?_
                refine SL.pure rfl rfl rfl (PureOp.move rfl) ?_
                refine SL.pure rfl rfl rfl (PureOp.indexAddrN Try.underlying70 sz74 rfl rfl (AoOk.own 2 rfl) (fun _ => by omega)) ?_
                refine SL.pure rfl rfl rfl (PureOp.fieldAddr 2 Try.underlying74 rfl rfl sz3 rfl) ?_
                refine SL.pure rfl rfl rfl (PureOp.load (v := .int .i64 ((nth pp i2).2.2.1)) Try.underlying3 rfl rfl (fun _ => (CellIs.ownc 2 rfl i2 2 (by first | exact encI_get (by omega) | exact cellsOf_get encSp_len _ _ _ (by omega) (by decide))))) ?_
                refine SL.pure rfl rfl rfl (PureOp.mul rfl rfl (fun _ => by omega)) ?_
                refine SL.pure rfl rfl rfl (PureOp.add rfl rfl (fun _ => by omega)) ?_
                refine SL.pure rfl rfl rfl (PureOp.assign rfl) ?_
                refine SL.nil ?_
                refine QX.normal_in ?_
                refine QX.then_ ?_
                refine WC.region ?_
                refine SL.pure rfl rfl rfl (PureOp.move rfl) ?_
                refine SL.pure rfl rfl rfl (PureOp.addN (k := 1) rfl rfl (fun _ => by omega)) ?_
                refine SL.pure rfl rfl rfl (PureOp.assign rfl) ?_
                refine SL.nil ?_
                refine QX.round (σ := Nat × List Int × Int) (Ef := fun q_ => [(0, 0, .int .i64 ((nu : Nat) : Int)), (1, 0, .slice ea m ec), (2, 0, .int .i64 s), (3, 0, .int .i64 t), (4, 0, .int .i64 most), (10, 0, .slice none 0 0), (11, 0, .int .i64 0), (12, 0, .int .i64 0), (13, 0, .int .i64 0), (14, 0, .int .i64 (checkE (nu : Int) l s t)), (15, 0, .slice (some ⟨b1, 0, none⟩) m m), (16, 0, .int .i64 a), (18, 0, .slice pa pp.length pc), (19, 0, .int .i64 y), (20, 0, .int .i64 ((i : Nat) : Int)), (22, 0, .int .i64 ((nu : Nat) : Int)), (23, 0, .slice ea m ec), (24, 0, .int .i64 s), (25, 0, .int .i64 t), (26, 0, .int .i64 (checkE (nu : Int) l s t)), (27, 0, .int .i64 (checkE (nu : Int) l s t)), (28, 0, .bool (decide (checkE (nu : Int) l s t ≠ 0))), (30, 0, .int .i64 most), (31, 0, .bool (decide (most < 0))), (32, 0, .slice ea m ec), (33, 0, .int .i64 ((m : Nat) : Int)), (34, 0, .slice (some ⟨b1, 0, none⟩) m m), (35, 0, .int .i64 a), (36, 0, .int .i64 most), (37, 0, .bool (decide (a < most))), (38, 0, .int .i64 ((nu : Nat) : Int)), (39, 0, .slice ea m ec), (40, 0, .slice (some ⟨b1, 0, none⟩) m m), (41, 0, .slice za ((stepsK l f l.length).length) zc), (42, 0, .int .i64 s), (43, 0, .int .i64 t), (44, 0, .slice pa pp.length pc), (45, 0, .slice pa pp.length pc), (46, 0, .int .i64 ((pp.length : Nat) : Int)), (47, 0, .bool (decide (((pp.length : Nat) : Int) = 0))), (48, 0, .int .i64 most), (49, 0, .int .i64 a), (50, 0, .int .i64 (most - a)), (51, 0, .int .i64 ((i : Nat) : Int)), (52, 0, .slice pa pp.length pc), (53, 0, .int .i64 ((pp.length : Nat) : Int)), (54, 0, .bool (decide (((i : Nat) : Int) < ((pp.length : Nat) : Int)))), (21, 0, .int .i64 ((q_.1 : Nat) : Int)), (17, 0, .int .i64 q_.2.2)]) (Hf := fun q_ => [Item.own w0.heap.size (some ⟨b1, 0, none⟩) m m 3 1 (cellsOf encI (q_.2.1)), Item.own w0.heap.size za ((stepsK l f l.length).length) zc 74 6 (cellsOf encSp (stepsK l f l.length)), Item.own w0.heap.size pa pp.length pc 74 6 (cellsOf encSp pp)]) (I := fun q_ => (q_.1 ≤ pp.length ∧ q_.2.1.length = m) ∧ q_.2.1 = (pp.take q_.1).foldl (updF y) f ∧ q_.2.2 = (pp.take q_.1).foldl (cosF y) z ∧ (∀ j, j < q_.2.1.length → -(65536 + ((q_.1 : Nat) : Int) * 65536) ≤ nth q_.2.1 j ∧ nth q_.2.1 j ≤ 65536 + ((q_.1 : Nat) : Int) * 65536) ∧ -(1152921504606846976 + ((q_.1 : Nat) : Int) * 281474976710656) ≤ q_.2.2 ∧ q_.2.2 ≤ 1152921504606846976 + ((q_.1 : Nat) : Int) * 281474976710656) (μ := fun q_ => pp.length - q_.1) (s := (i2, g, zz)) 3 ((i2 + 1, updF y g (nth pp i2), zz + y * (nth pp i2).2.2.1)) ⟨⟨⟨(by first | omega | (dsimp only; omega)), by rw [updF_len]; exact hgl⟩, by rw [foldl_take (by omega), ← hgg], by rw [foldl_take (by omega), ← hzz]; rfl, fun j hj => by have h := updF_bd (x := (nth pp i2)) ⟨hg.1, hg.2.1⟩ hgb j hj; dsimp only at h ⊢; omega, by dsimp only; omega, by dsimp only; omega⟩, by first | omega | (dsimp only; omega)⟩ ⟨rfl, rfl, rfl, rfl, rfl, rfl, rfl, rfl, rfl, rfl, rfl, rfl, rfl, rfl, rfl, rfl, rfl, rfl, rfl, rfl, rfl, rfl, rfl, rfl, rfl, rfl, rfl, rfl, rfl, rfl, rfl, rfl, rfl, rfl, rfl, rfl, rfl, rfl, rfl, rfl, rfl, rfl, rfl, rfl, rfl, rfl, rfl, rfl, rfl, rfl, rfl, rfl, rfl, rfl, rfl, rfl, rfl, rfl, rfl, rfl, rfl, rfl, rfl, rfl, rfl, rfl, rfl, rfl, rfl, rfl, rfl, rfl, rfl, rfl, rfl, rfl, rfl, rfl, rfl, rfl, rfl, rfl, rfl, rfl, rfl, rfl, rfl, rfl, rfl, rfl, rfl, rfl, rfl, rfl, rfl, rfl, rfl, rfl, trivial⟩ rfl
            · try simp only [Bool.and_eq_true, Bool.or_eq_true, Bool.not_eq_true', Bool.not_eq_false', Bool.and_eq_false_iff, Bool.or_eq_false_iff, decide_eq_true_eq, decide_eq_false_iff_not, Int.not_lt, Int.not_le, ne_eq, Decidable.not_not] at h6
              have ei2 : i2 = pp.length := by omega
              rw [ei2, List.take_length] at hgg hzz
              refine WC.exit ?_
              refine QX.exit_then ?_
              refine QX.exit_then ?_
              refine QX.exit_hit ?_
              refine QX.then_ ?_
              refine WC.region ?_
              refine SL.pure rfl rfl rfl (PureOp.move rfl) ?_
              refine SL.pure rfl rfl rfl (PureOp.move rfl) ?_
              refine SL.pure rfl rfl rfl (PureOp.add rfl rfl (fun _ => by omega)) ?_
              refine SL.pure rfl rfl rfl (PureOp.assign rfl) ?_
              refine SL.nil ?_
              refine QX.normal_in ?_
              refine QX.round (σ := Nat × List Int × Int × Int) (Ef := fun q_ => [(0, 0, .int .i64 ((nu : Nat) : Int)), (1, 0, .slice ea m ec), (2, 0, .int .i64 s), (3, 0, .int .i64 t), (4, 0, .int .i64 most), (10, 0, .slice none 0 0), (11, 0, .int .i64 0), (12, 0, .int .i64 0), (13, 0, .int .i64 0), (14, 0, .int .i64 (checkE (nu : Int) l s t)), (15, 0, .slice (some ⟨b1, 0, none⟩) m m), (22, 0, .int .i64 ((nu : Nat) : Int)), (23, 0, .slice ea m ec), (24, 0, .int .i64 s), (25, 0, .int .i64 t), (26, 0, .int .i64 (checkE (nu : Int) l s t)), (27, 0, .int .i64 (checkE (nu : Int) l s t)), (28, 0, .bool (decide (checkE (nu : Int) l s t ≠ 0))), (30, 0, .int .i64 most), (31, 0, .bool (decide (most < 0))), (32, 0, .slice ea m ec), (33, 0, .int .i64 ((m : Nat) : Int)), (34, 0, .slice (some ⟨b1, 0, none⟩) m m), (16, 0, .int .i64 q_.2.2.1), (17, 0, .int .i64 q_.2.2.2)]) (Hf := fun q_ => [Item.own w0.heap.size (some ⟨b1, 0, none⟩) m m 3 1 (cellsOf encI (q_.2.1))]) (I := fun q_ => slvR l nu s t most q_.1 q_.2.1 q_.2.2.1 q_.2.2.2 = some R ∧ withinB l q_.2.1 = true ∧ 0 ≤ q_.2.2.1) (μ := fun q_ => q_.1) (s := ((Kp + 1), f, a, z)) 1 ((Kp, g, a + y, zz)) ⟨⟨by rw [hgg, hzz]; exact hs2, by rw [hgg]; exact hg.2.2.2.2.2, by dsimp only; omega⟩, by first | omega | (dsimp only; omega)⟩ ⟨rfl, rfl, rfl, rfl, rfl, rfl, rfl, rfl, rfl, rfl, rfl, rfl, rfl, rfl, rfl, rfl, rfl, rfl, rfl, rfl, rfl, rfl, rfl, rfl, rfl, rfl, rfl, rfl, rfl, rfl, rfl, rfl, rfl, rfl, rfl, rfl, rfl, rfl, rfl, rfl, rfl, rfl, rfl, rfl, rfl, rfl, rfl, rfl, rfl, rfl, trivial⟩ rfl
      · try simp only [Bool.and_eq_true, Bool.or_eq_true, Bool.not_eq_true', Bool.not_eq_false', Bool.and_eq_false_iff, Bool.or_eq_false_iff, decide_eq_true_eq, decide_eq_false_iff_not, Int.not_lt, Int.not_le, ne_eq, Decidable.not_not] at h3
        refine WC.exit ?_
        refine QX.exit_then ?_
        refine QX.exit_then ?_
        refine QX.exit_hit ?_
        refine QX.then_ ?_
        refine WC.seq ?_
        refine WC.region ?_
        refine SL.pure rfl rfl rfl (PureOp.move rfl) ?_
        refine SL.pure rfl rfl rfl (PureOp.move rfl) ?_
        refine SL.pure rfl rfl rfl (PureOp.move rfl) ?_
        refine SL.pure rfl rfl rfl (PureOp.assign rfl) ?_
        refine SL.pure rfl rfl rfl (PureOp.assign rfl) ?_
        refine SL.pure rfl rfl rfl (PureOp.assign rfl) ?_
        refine SL.pure rfl rfl rfl (PureOp.assign rfl) ?_
        refine SL.nil_then ?_
        refine WC.ret ?_
        refine QX.retv rfl (RVs.cons (RV.tmp rfl) (RVs.cons (RV.tmp rfl) (RVs.cons (RV.tmp rfl) (RVs.cons (RV.tmp rfl) RVs.nil)))) ?_
        intro w hw
        have eR := slvR_done hs (by omega)
        subst eR
        refine ⟨_, _, rfl, ?_⟩
        exact hw.mem (i := 0) rfl

end Go.Proofs.Ytngkbnaehkailaa
