import Derived.Test.YtdiegelbpdknaaaMaL
import Derived.Test.YtdiegelbpdknaaaNorm
namespace Go.Proofs.Ytdiegelbpdknaaa
open Go Go.RowKit Eng
set_option linter.unusedVariables false
set_option linter.unusedSimpArgs false

set_option maxHeartbeats 4000000 in
set_option maxRecDepth 100000 in
theorem groups_law (l : List Int) (ao : Option Addr) (n cap : Nat) (hn : n = l.length) (w0 : World) (hz : SliceIn w0 1 ao n cap (rowsF encI l)) : FnC Try.prog 6 [.slice ao n cap] w0 fun v w' => v = .bool true := by
  refine fnc (N := 146) Try.func6 rfl rfl rfl ?_
  refine WC.seq ?_
  refine WC.region ?_
  refine SL.pure rfl rfl rfl (PureOp.assign rfl) ?_
  refine SL.nil_then ?_
  refine WC.seq ?_
  refine WC.seq ?_
  refine WC.region ?_
  refine SL.pure rfl rfl rfl (PureOp.move rfl) ?_
  refine SL.pure rfl rfl rfl (PureOp.len rfl Try.underlying22) ?_
  refine SL.pure rfl rfl rfl (PureOp.gtr rfl rfl) ?_
  refine SL.nil_then ?_
  refine WC.cond rfl (fun h1 => ?_) (fun h1 => ?_)
  · try simp only [Bool.and_eq_true, Bool.or_eq_true, Bool.not_eq_true', Bool.not_eq_false', Bool.and_eq_false_iff, Bool.or_eq_false_iff, decide_eq_true_eq, decide_eq_false_iff_not, Int.not_lt, Int.not_le, ne_eq, Decidable.not_not] at h1
    refine WC.seq ?_
    refine WC.region ?_
    refine SL.calle rfl rfl rfl rfl rfl rfl callable7 (fun w hw => knows_ok w) ?_
    refine SL.pure rfl rfl rfl (PureOp.assign rfl) ?_
    refine SL.nil_then ?_
    refine WC.ret ?_
    refine QX.ret_then ?_
    refine QX.ret1 rfl rfl ?_
    intro w hw
    rfl
  · try simp only [Bool.and_eq_true, Bool.or_eq_true, Bool.not_eq_true', Bool.not_eq_false', Bool.and_eq_false_iff, Bool.or_eq_false_iff, decide_eq_true_eq, decide_eq_false_iff_not, Int.not_lt, Int.not_le, ne_eq, Decidable.not_not] at h1
    refine WC.skip ?_
    refine QX.then_ ?_
    refine WC.seq ?_
    refine WC.region ?_
    refine SL.pure rfl rfl rfl (PureOp.move rfl) ?_
    refine SL.callg (fun a c rs => .tuple #[.slice a rs.length c, .int .i64 (checkF l)]) (fun rs => Rc l rs) rfl rfl rfl rfl rfl rfl callable8 (fun w hw => Groups_ok l ao n cap hn w (hz.below hw.below) (by omega)) (fun ga gc rs hRc => ?_)
    refine SL.pure rfl rfl rfl (PureOp.move rfl) ?_
    refine SL.pure rfl rfl rfl (PureOp.extract rfl rfl) ?_
    refine SL.pure rfl rfl rfl (PureOp.extract rfl rfl) ?_
    refine SL.pure rfl rfl rfl (PureOp.assign rfl) ?_
    refine SL.pure rfl rfl rfl (PureOp.assign rfl) ?_
    refine SL.nil_then ?_
    refine WC.seq ?_
    refine WC.region ?_
    refine SL.pure rfl rfl rfl (PureOp.move rfl) ?_
    refine SL.callo (fun a c => .tuple #[.slice a (normX l).length c, .int .i64 (checkF l)]) rfl rfl rfl rfl rfl rfl callable17 (fun w hw => normal_ok l ao n cap hn w (hz.below hw.below) (by omega)) (fun pa pc => ?_)
    refine SL.pure rfl rfl rfl (PureOp.move rfl) ?_
    refine SL.pure rfl rfl rfl (PureOp.extract rfl rfl) ?_
    refine SL.pure rfl rfl rfl (PureOp.extract rfl rfl) ?_
    refine SL.pure rfl rfl rfl (PureOp.assign rfl) ?_
    refine SL.pure rfl rfl rfl (PureOp.assign rfl) ?_
    refine SL.nil_then ?_
    refine WC.seq ?_
    refine WC.seq ?_
    refine WC.region ?_
    refine SL.pure rfl rfl rfl (PureOp.move rfl) ?_
    refine SL.pure rfl rfl rfl (PureOp.neq rfl rfl) ?_
    refine SL.nil_then ?_
    refine WC.cond rfl (fun h2 => ?_) (fun h2 => ?_)
    · try simp only [Bool.and_eq_true, Bool.or_eq_true, Bool.not_eq_true', Bool.not_eq_false', Bool.and_eq_false_iff, Bool.or_eq_false_iff, decide_eq_true_eq, decide_eq_false_iff_not, Int.not_lt, Int.not_le, ne_eq, Decidable.not_not] at h2
      refine WC.seq ?_
      refine WC.region ?_
      refine SL.pure rfl rfl rfl (PureOp.move rfl) ?_
      refine SL.pure rfl rfl rfl (PureOp.len rfl Try.underlying24) ?_
      refine SL.pure rfl rfl rfl (PureOp.eql rfl rfl) ?_
      refine SL.pure rfl rfl rfl (PureOp.move rfl) ?_
      refine SL.newg 33 true rfl ?_
      refine SL.gpure (c := 1) rfl rfl rfl rfl rfl rfl rfl (PureOp.move rfl) ?_
      refine SL.gpure (c := 1) rfl rfl rfl rfl rfl rfl rfl (PureOp.len rfl Try.underlying22) ?_
      refine SL.gpure (c := 1) rfl rfl rfl rfl rfl rfl rfl (PureOp.eql rfl rfl) ?_
      refine SL.pure rfl rfl rfl (PureOp.and_ rfl rfl rfl rfl) ?_
      refine SL.pure rfl rfl rfl (PureOp.move rfl) ?_
      refine SL.newg 38 true rfl ?_
      refine SL.gpure (c := 2) rfl rfl rfl rfl rfl rfl rfl (PureOp.move rfl) ?_
      refine SL.gpure (c := 2) rfl rfl rfl rfl rfl rfl rfl (PureOp.move rfl) ?_
      refine SL.gpure (c := 2) rfl rfl rfl rfl rfl rfl rfl (PureOp.eql rfl rfl) ?_
      refine SL.pure rfl rfl rfl (PureOp.and_ rfl rfl rfl rfl) ?_
      refine SL.pure rfl rfl rfl (PureOp.move rfl) ?_
      refine SL.newg 43 true rfl ?_
      refine SL.gcalle (c := 3) rfl rfl rfl rfl rfl rfl rfl rfl rfl rfl callable7 (by intro hg; simp [gval] at hg; exact (fun w hw => knows_ok w)) ?_
      refine SL.pure rfl rfl rfl (PureOp.and_ rfl rfl rfl rfl) ?_
      refine SL.pure rfl rfl rfl (PureOp.assign rfl) ?_
      refine SL.nil_then ?_
      refine WC.ret ?_
      refine QX.ret_then ?_
      refine QX.ret1 rfl rfl ?_
      intro w hw
      have q : ¬ checkF l = 0 := h2
      rw [Rc, if_neg q] at hRc
      have q2 : normX l = [] := by rw [normX, if_neg q]
      rw [hRc, q2]
      simp
    · try simp only [Bool.and_eq_true, Bool.or_eq_true, Bool.not_eq_true', Bool.not_eq_false', Bool.and_eq_false_iff, Bool.or_eq_false_iff, decide_eq_true_eq, decide_eq_false_iff_not, Int.not_lt, Int.not_le, ne_eq, Decidable.not_not] at h2
      have hc0 : checkF l = 0 := by omega
      have hR : Rk l l.length rs := by rw [Rc, if_pos hc0] at hRc; exact hRc
      have hRl := hR.len
      have hgl := gi_le l l.length
      have hnl := normX_len hc0
      refine WC.skip ?_
      refine QX.then_ ?_
      refine WC.seq ?_
      refine WC.region ?_
      refine SL.pure rfl rfl rfl (PureOp.move rfl) ?_
      refine SL.callg (fun a c rs => .tuple #[.slice a rs.length c, .int .i64 0]) (fun rs => Rc (normX l) rs) rfl rfl rfl rfl rfl rfl callable8 (fun w hw => (by have h := Groups_ok (normX l) pa (normX l).length pc rfl w (SliceIn.rows (enc := encI) (l := normX l) (hw.mem (i := 2) rfl) encI_len (Nat.le_refl _)) (by have := normX_le l; omega); rw [norm_check hc0] at h; exact h)) (fun gb gd rs2 hRc2 => ?_)
      refine SL.pure rfl rfl rfl (PureOp.move rfl) ?_
      refine SL.pure rfl rfl rfl (PureOp.extract rfl rfl) ?_
      refine SL.pure rfl rfl rfl (PureOp.extract rfl rfl) ?_
      refine SL.pure rfl rfl rfl (PureOp.assign rfl) ?_
      refine SL.pure rfl rfl rfl (PureOp.assign rfl) ?_
      refine SL.nil_then ?_
      refine WC.seq ?_
      refine WC.region ?_
      refine SL.pure rfl rfl rfl (PureOp.move rfl) ?_
      refine SL.callo (fun a c => .tuple #[.slice a (normX l).length c, .int .i64 0]) rfl rfl rfl rfl rfl rfl callable17 (fun w hw => (by have h := normal_ok (normX l) pa (normX l).length pc rfl w (SliceIn.rows (enc := encI) (l := normX l) (hw.mem (i := 2) rfl) encI_len (Nat.le_refl _)) (by have := normX_le l; omega); rw [norm_norm hc0, norm_check hc0] at h; exact h)) (fun qa qc => ?_)
      refine SL.pure rfl rfl rfl (PureOp.move rfl) ?_
      refine SL.pure rfl rfl rfl (PureOp.extract rfl rfl) ?_
      refine SL.pure rfl rfl rfl (PureOp.extract rfl rfl) ?_
      refine SL.pure rfl rfl rfl (PureOp.assign rfl) ?_
      refine SL.pure rfl rfl rfl (PureOp.assign rfl) ?_
      refine SL.nil_then ?_
      refine WC.seq ?_
      refine WC.seq ?_
      refine WC.region ?_
      refine SL.pure rfl rfl rfl (PureOp.move rfl) ?_
      refine SL.pure rfl rfl rfl (PureOp.neq rfl rfl) ?_
      refine SL.pure rfl rfl rfl (PureOp.move rfl) ?_
      refine SL.newg 58 false rfl ?_
      refine SL.gpure (c := 1) rfl rfl rfl rfl rfl rfl rfl (PureOp.move rfl) ?_
      refine SL.gpure (c := 1) rfl rfl rfl rfl rfl rfl rfl (PureOp.neq rfl rfl) ?_
      refine SL.pure rfl rfl rfl (PureOp.or_ rfl rfl rfl rfl) ?_
      refine SL.pure rfl rfl rfl (PureOp.move rfl) ?_
      refine SL.newg 62 false rfl ?_
      refine SL.gpure (c := 2) rfl rfl rfl rfl rfl rfl rfl (PureOp.move rfl) ?_
      refine SL.gpure (c := 2) rfl rfl rfl rfl rfl rfl rfl (PureOp.neq rfl rfl) ?_
      refine SL.pure rfl rfl rfl (PureOp.or_ rfl rfl rfl rfl) ?_
      refine SL.pure rfl rfl rfl (PureOp.move rfl) ?_
      refine SL.newg 66 false rfl ?_
      refine SL.gpure (c := 3) rfl rfl rfl rfl rfl rfl rfl (PureOp.move rfl) ?_
      refine SL.gpure (c := 3) rfl rfl rfl rfl rfl rfl rfl (PureOp.move rfl) ?_
      refine SL.gcalle (c := 3) rfl rfl rfl rfl rfl rfl rfl rfl rfl rfl callable12 (by intro hg; simp [gval] at hg; exact (fun w hw => same_ok (normX l) _ _ _ _ _ _ rfl rfl w (SliceIn.rows (enc := encI) (l := normX l) (hw.mem (i := 5) rfl) encI_len (Nat.le_refl _)) (SliceIn.rows (enc := encI) (l := normX l) (hw.mem (i := 2) rfl) encI_len (Nat.le_refl _)) (by have := normX_le l; omega))) ?_
      refine SL.gpure (c := 3) rfl rfl rfl rfl rfl rfl rfl (PureOp.not rfl) ?_
      refine SL.pure rfl rfl rfl (PureOp.or_ rfl rfl rfl rfl) ?_
      refine SL.pure rfl rfl rfl (PureOp.move rfl) ?_
      refine SL.newg 72 false rfl ?_
      refine SL.gpure (c := 4) rfl rfl rfl rfl rfl rfl rfl (PureOp.move rfl) ?_
      refine SL.gpure (c := 4) rfl rfl rfl rfl rfl rfl rfl (PureOp.len rfl Try.underlying24) ?_
      refine SL.gpure (c := 4) rfl rfl rfl rfl rfl rfl rfl (PureOp.move rfl) ?_
      refine SL.gpure (c := 4) rfl rfl rfl rfl rfl rfl rfl (PureOp.len rfl Try.underlying24) ?_
      refine SL.gpure (c := 4) rfl rfl rfl rfl rfl rfl rfl (PureOp.neq rfl rfl) ?_
      refine SL.pure rfl rfl rfl (PureOp.or_ rfl rfl rfl rfl) ?_
      refine SL.nil_then ?_
      refine WC.cond rfl (fun h3 => ?_) (fun h3 => ?_)
      · try simp only [Bool.and_eq_true, Bool.or_eq_true, Bool.not_eq_true', Bool.not_eq_false', Bool.and_eq_false_iff, Bool.or_eq_false_iff, decide_eq_true_eq, decide_eq_false_iff_not, Int.not_lt, Int.not_le, ne_eq, Decidable.not_not] at h3
        exact absurd h3 (by have q := (rk_norm hc0 hRc2).2; intro hh; simp [hc0] at hh; omega)
      · try simp only [Bool.and_eq_true, Bool.or_eq_true, Bool.not_eq_true', Bool.not_eq_false', Bool.and_eq_false_iff, Bool.or_eq_false_iff, decide_eq_true_eq, decide_eq_false_iff_not, Int.not_lt, Int.not_le, ne_eq, Decidable.not_not] at h3
        obtain ⟨hR2, hR2l⟩ := rk_norm hc0 hRc2
        refine WC.skip ?_
        refine QX.then_ ?_
        refine WC.seq ?_
        refine WC.region ?_
        refine SL.pure rfl rfl rfl (PureOp.assign rfl) ?_
        refine SL.nil_then ?_
        refine WC.seq ?_
        refine WC.seq ?_
        refine WC.region ?_
        refine SL.pure rfl rfl rfl (PureOp.assign rfl) ?_
        refine SL.nil_then ?_
        refine WC.block ?_
        refine WC.loop (σ := Nat × Nat) (fun s => [(0, 0, .slice ao n cap), (3, 0, .slice ga rs.length gc), (7, 0, .slice gb rs2.length gd), (11, 0, .int .i64 (s.2 : Nat)), (12, 0, .int .i64 (s.1 : Nat))]) (fun _ => [.own w0.heap.size ga rs.length gc 22 1 (rs.map FRow.val), .fam w0.heap.size 3 1 rs, .own w0.heap.size pa (normX l).length pc 3 1 (cellsOf encI (normX l)), .own w0.heap.size gb rs2.length gd 22 1 (rs2.map FRow.val), .fam w0.heap.size 3 1 rs2, .own w0.heap.size qa (normX l).length qc 3 1 (cellsOf encI (normX l))]) (fun s => s.1 ≤ rs.length ∧ s.2 = (xk l s.1).length) (fun s => rs.length - s.1) 6 ((0, 0)) (⟨Nat.zero_le _, rfl⟩) ⟨rfl, rfl, rfl, rfl, rfl, rfl, rfl, rfl, rfl, rfl, trivial⟩ rfl ?_
        rintro ⟨k, nx⟩ ⟨hk, hnx⟩
        dsimp only at hk hnx ⊢
        refine WC.seq ?_
        refine WC.seq ?_
        refine WC.region ?_
        refine SL.pure rfl rfl rfl (PureOp.move rfl) ?_
        refine SL.pure rfl rfl rfl (PureOp.move rfl) ?_
        refine SL.pure rfl rfl rfl (PureOp.len rfl Try.underlying24) ?_
        refine SL.pure rfl rfl rfl (PureOp.lss rfl rfl) ?_
        refine SL.nil_then ?_
        refine WC.cond rfl (fun h4 => ?_) (fun h4 => ?_)
        · try simp only [Bool.and_eq_true, Bool.or_eq_true, Bool.not_eq_true', Bool.not_eq_false', Bool.and_eq_false_iff, Bool.or_eq_false_iff, decide_eq_true_eq, decide_eq_false_iff_not, Int.not_lt, Int.not_le, ne_eq, Decidable.not_not] at h4
          have hkl : k < rs.length := by omega
          have hkl2 : k < rs2.length := by omega
          obtain ⟨hn1, hx1⟩ := hR.at_ hkl
          obtain ⟨hn2, hx2⟩ := hR2.at_ hkl2
          have hkg : k < (gi l l.length).length := by omega
          have hle := (gi_inv l l.length).le hkg
          have hm1 := (gi_inv l l.length).m1 k hkg
          have hxk := xk_len l k hkg
          have hin2 := hR2.in_ hkl2
          rw [norm_gi hc0] at hn2 hx2 hin2
          have hsm := (gi_inv l l.length).same k hkg
          refine WC.skip ?_
          refine QX.then_ ?_
          refine WC.seq ?_
          refine WC.block ?_
          refine WC.seq ?_
          refine WC.seq ?_
          refine WC.quiet rfl (by kernel_rfl) ?_
          refine SQ.pure rfl rfl rfl (PureOp.move rfl) ?_
          refine SQ.pure rfl rfl rfl (PureOp.move rfl) ?_
          refine SQ.pure rfl rfl rfl (PureOp.indexAddrN Try.underlying24 sz22 rfl rfl (AoOk.own 0 rfl) (fun _ => by omega)) ?_
          refine SQ.pure rfl rfl rfl (PureOp.load Try.underlying22 rfl rfl (fun _ => (CellIs.ownc 0 rfl k 0 (by first | exact vals_get (rs := rs) hkl | exact vals_get (rs := rs2) hkl2)))) ?_
          refine SQ.pure rfl rfl rfl (PureOp.move rfl) ?_
          refine SQ.pure rfl rfl rfl (PureOp.move rfl) ?_
          refine SQ.pure rfl rfl rfl (PureOp.indexAddrN Try.underlying24 sz22 rfl rfl (AoOk.own 3 rfl) (fun _ => by omega)) ?_
          refine SQ.pure rfl rfl rfl (PureOp.load Try.underlying22 rfl rfl (fun _ => (CellIs.ownc 3 rfl k 0 (by first | exact vals_get (rs := rs) hkl | exact vals_get (rs := rs2) hkl2)))) ?_
          refine SQ.calle rfl rfl rfl rfl rfl rfl callable12 (fun w hw => same_ok (il (nth (gi l l.length) k).1 (nth (gi l l.length) k).2) _ _ _ _ _ _ (by rw [il_length]; exact hn1) (by rw [il_length]; exact hn2) w (fam_in hw 1 rfl k hkl (hR.in_ hkl)) (fam_in hw 4 rfl k hkl2 hin2) (by omega)) ?_
          refine SQ.pure rfl rfl rfl (PureOp.not rfl) ?_
          refine SQ.pure rfl rfl rfl (PureOp.move rfl) ?_
          refine SQ.newg 95 false rfl ?_
          refine SQ.gpure (c := 1) rfl rfl rfl rfl rfl rfl rfl (PureOp.move rfl) ?_
          refine SQ.gpure (c := 1) rfl rfl rfl rfl rfl rfl rfl (PureOp.move rfl) ?_
          refine SQ.gpure (c := 1) rfl rfl rfl rfl rfl rfl rfl (PureOp.indexAddrN Try.underlying24 sz22 rfl rfl (AoOk.own 0 rfl) (by intro hg; simp [gval] at hg; omega)) ?_
          refine SQ.gpure (c := 1) rfl rfl rfl rfl rfl rfl rfl (PureOp.load Try.underlying22 rfl rfl (by intro hg; simp [gval] at hg; exact (CellIs.ownc 0 rfl k 0 (by first | exact vals_get (rs := rs) hkl | exact vals_get (rs := rs2) hkl2)))) ?_
          refine SQ.gpure (c := 1) rfl rfl rfl rfl rfl rfl rfl (PureOp.len rfl Try.underlying22) ?_
          refine SQ.gpure (c := 1) rfl rfl rfl rfl rfl rfl rfl (PureOp.eql rfl rfl) ?_
          refine SQ.pure rfl rfl rfl (PureOp.or_ rfl rfl rfl rfl) ?_
          refine SQ.nil_then ?_
          refine WC.cond rfl (fun h5 => ?_) (fun h5 => ?_)
          · try simp only [Bool.and_eq_true, Bool.or_eq_true, Bool.not_eq_true', Bool.not_eq_false', Bool.and_eq_false_iff, Bool.or_eq_false_iff, decide_eq_true_eq, decide_eq_false_iff_not, Int.not_lt, Int.not_le, ne_eq, Decidable.not_not] at h5
            exact absurd h5 (by simp; omega)
          · try simp only [Bool.and_eq_true, Bool.or_eq_true, Bool.not_eq_true', Bool.not_eq_false', Bool.and_eq_false_iff, Bool.or_eq_false_iff, decide_eq_true_eq, decide_eq_false_iff_not, Int.not_lt, Int.not_le, ne_eq, Decidable.not_not] at h5
            refine WC.skip ?_
            refine QX.then_ ?_
            refine WC.seq ?_
            refine WC.region ?_
            refine SL.pure rfl rfl rfl (PureOp.assign rfl) ?_
            refine SL.nil_then ?_
            refine WC.block ?_
            refine WC.loop (σ := Nat) (fun s => [(0, 0, .slice ao n cap), (3, 0, .slice ga rs.length gc), (7, 0, .slice gb rs2.length gd), (11, 0, .int .i64 (nx + s : Nat)), (12, 0, .int .i64 (k : Nat)), (13, 0, .int .i64 (s : Nat))]) (fun _ => [.own w0.heap.size ga rs.length gc 22 1 (rs.map FRow.val), .fam w0.heap.size 3 1 rs, .own w0.heap.size pa (normX l).length pc 3 1 (cellsOf encI (normX l)), .own w0.heap.size gb rs2.length gd 22 1 (rs2.map FRow.val), .fam w0.heap.size 3 1 rs2, .own w0.heap.size qa (normX l).length qc 3 1 (cellsOf encI (normX l))]) (fun j => j ≤ (nth rs k).n) (fun j => (nth rs k).n - j) 6 (0) (Nat.zero_le _) ⟨rfl, rfl, rfl, rfl, rfl, rfl, rfl, rfl, rfl, rfl, rfl, rfl, trivial⟩ rfl ?_
            rintro j hj
            refine WC.seq ?_
            refine WC.seq ?_
            refine WC.region ?_
            refine SL.pure rfl rfl rfl (PureOp.move rfl) ?_
            refine SL.pure rfl rfl rfl (PureOp.move rfl) ?_
            refine SL.pure rfl rfl rfl (PureOp.move rfl) ?_
            refine SL.pure rfl rfl rfl (PureOp.indexAddrN Try.underlying24 sz22 rfl rfl (AoOk.own 0 rfl) (fun _ => by omega)) ?_
            refine SL.pure rfl rfl rfl (PureOp.load Try.underlying22 rfl rfl (fun _ => (CellIs.ownc 0 rfl k 0 (by first | exact vals_get (rs := rs) hkl | exact vals_get (rs := rs2) hkl2)))) ?_
            refine SL.pure rfl rfl rfl (PureOp.len rfl Try.underlying22) ?_
            refine SL.pure rfl rfl rfl (PureOp.lss rfl rfl) ?_
            refine SL.nil_then ?_
            refine WC.cond rfl (fun h6 => ?_) (fun h6 => ?_)
            · try simp only [Bool.and_eq_true, Bool.or_eq_true, Bool.not_eq_true', Bool.not_eq_false', Bool.and_eq_false_iff, Bool.or_eq_false_iff, decide_eq_true_eq, decide_eq_false_iff_not, Int.not_lt, Int.not_le, ne_eq, Decidable.not_not] at h6
              refine WC.skip ?_
              refine QX.then_ ?_
              refine WC.seq ?_
              refine WC.block ?_
              refine WC.seq ?_
              refine WC.seq ?_
              refine WC.quiet rfl (by kernel_rfl) ?_
              refine SQ.pure rfl rfl rfl (PureOp.move rfl) ?_
              refine SQ.pure rfl rfl rfl (PureOp.move rfl) ?_
              refine SQ.pure rfl rfl rfl (PureOp.indexAddrN Try.underlying24 sz22 rfl rfl (AoOk.own 0 rfl) (fun _ => by omega)) ?_
              refine SQ.pure rfl rfl rfl (PureOp.load Try.underlying22 rfl rfl (fun _ => (CellIs.ownc 0 rfl k 0 (by first | exact vals_get (rs := rs) hkl | exact vals_get (rs := rs2) hkl2)))) ?_
              refine SQ.pure rfl rfl rfl (PureOp.move rfl) ?_
              refine SQ.pure rfl rfl rfl (PureOp.indexAddrN Try.underlying22 sz3 rfl rfl (AoOk.fam 1 rfl k hkl) (fun _ => by omega)) ?_
              refine SQ.pure rfl rfl rfl (PureOp.load Try.underlying3 rfl rfl (fun _ => (CellIs.fam 1 rfl k hkl j 0 (by exact hR.get hkl (by omega))))) ?_
              refine SQ.pure rfl rfl rfl (PureOp.move rfl) ?_
              refine SQ.pure rfl rfl rfl (PureOp.neq rfl rfl) ?_
              refine SQ.pure rfl rfl rfl (PureOp.move rfl) ?_
              refine SQ.newg 121 false rfl ?_
              refine SQ.gpure (c := 1) rfl rfl rfl rfl rfl rfl rfl (PureOp.move rfl) ?_
              refine SQ.gpure (c := 1) rfl rfl rfl rfl rfl rfl rfl (PureOp.move rfl) ?_
              refine SQ.gpure (c := 1) rfl rfl rfl rfl rfl rfl rfl (PureOp.indexAddr Try.underlying22 sz3 rfl rfl (AoOk.in_ hz) (by intro hg; simp [gval] at hg; omega)) ?_
              refine SQ.gpure (c := 1) rfl rfl rfl rfl rfl rfl rfl (PureOp.load Try.underlying3 rfl rfl (by intro hg; simp [gval] at hg; exact (CellIs.in_ hz ((nx + j : Nat) : Int).toNat 0 (by omega) (by omega)))) ?_
              refine SQ.gpure (c := 1) rfl rfl rfl rfl rfl rfl rfl (PureOp.move rfl) ?_
              refine SQ.gpure (c := 1) rfl rfl rfl rfl rfl rfl rfl (PureOp.move rfl) ?_
              refine SQ.gpure (c := 1) rfl rfl rfl rfl rfl rfl rfl (PureOp.move rfl) ?_
              refine SQ.gpure (c := 1) rfl rfl rfl rfl rfl rfl rfl (PureOp.indexAddrN Try.underlying24 sz22 rfl rfl (AoOk.own 0 rfl) (by intro hg; simp [gval] at hg; omega)) ?_
              refine SQ.gpure (c := 1) rfl rfl rfl rfl rfl rfl rfl (PureOp.load Try.underlying22 rfl rfl (by intro hg; simp [gval] at hg; exact (CellIs.ownc 0 rfl k 0 (by first | exact vals_get (rs := rs) hkl | exact vals_get (rs := rs2) hkl2)))) ?_
              refine SQ.gpure (c := 1) rfl rfl rfl rfl rfl rfl rfl (PureOp.indexAddr Try.underlying22 sz3 rfl rfl (AoOk.fam 1 rfl k hkl) (by intro hg; simp [gval] at hg; omega)) ?_
              refine SQ.gpure (c := 1) rfl rfl rfl rfl rfl rfl rfl (PureOp.load Try.underlying3 rfl rfl (fun _ => (CellIs.fam 1 rfl k hkl (0 : Int).toNat 0 (by exact hR.get hkl (by omega))))) ?_
              refine SQ.gpure (c := 1) rfl rfl rfl rfl rfl rfl rfl (PureOp.indexAddr Try.underlying22 sz3 rfl rfl (AoOk.in_ hz) (by intro hg; simp [gval] at hg; omega)) ?_
              refine SQ.gpure (c := 1) rfl rfl rfl rfl rfl rfl rfl (PureOp.load Try.underlying3 rfl rfl (by intro hg; simp [gval] at hg; exact (CellIs.in_ hz (((nth (gi l l.length) k).1 + (0 : Int).toNat : Nat) : Int).toNat 0 (by omega) (by omega)))) ?_
              refine SQ.gpure (c := 1) rfl rfl rfl rfl rfl rfl rfl (PureOp.neq rfl rfl) ?_
              refine SQ.pure rfl rfl rfl (PureOp.or_ rfl rfl rfl rfl) ?_
              refine SQ.nil_then ?_
              refine WC.cond rfl (fun h7 => ?_) (fun h7 => ?_)
              · try simp only [Bool.and_eq_true, Bool.or_eq_true, Bool.not_eq_true', Bool.not_eq_false', Bool.and_eq_false_iff, Bool.or_eq_false_iff, decide_eq_true_eq, decide_eq_false_iff_not, Int.not_lt, Int.not_le, ne_eq, Decidable.not_not] at h7
                exact absurd h7 (by intro hh; have q := hsm j (by omega); have e1 : ((nx + j : Nat) : Int).toNat = (nth (gi l l.length) k).1 + j := (by omega); have e2 : (((nth (gi l l.length) k).1 + (0 : Int).toNat : Nat) : Int).toNat = (nth (gi l l.length) k).1 := (by simp); rw [e1, e2, q] at hh; rcases hh with hh | hh <;> omega)
              · try simp only [Bool.and_eq_true, Bool.or_eq_true, Bool.not_eq_true', Bool.not_eq_false', Bool.and_eq_false_iff, Bool.or_eq_false_iff, decide_eq_true_eq, decide_eq_false_iff_not, Int.not_lt, Int.not_le, ne_eq, Decidable.not_not] at h7
                refine WC.skip ?_
                refine QX.then_ ?_
                refine WC.region ?_
                refine SL.pure rfl rfl rfl (PureOp.move rfl) ?_
                refine SL.pure rfl rfl rfl (PureOp.add rfl rfl (fun _ => by omega)) ?_
                refine SL.pure rfl rfl rfl (PureOp.assign rfl) ?_
                refine SL.nil ?_
                refine QX.normal_in ?_
                refine QX.then_ ?_
                refine WC.region ?_
                refine SL.pure rfl rfl rfl (PureOp.move rfl) ?_
                refine SL.pure rfl rfl rfl (PureOp.add rfl rfl (fun _ => by omega)) ?_
                refine SL.pure rfl rfl rfl (PureOp.assign rfl) ?_
                refine SL.nil ?_
                refine QX.round 6 (j + 1) ⟨by omega, by omega⟩ ⟨rfl, rfl, rfl, rfl, rfl, rfl, rfl, rfl, rfl, rfl, rfl, rfl, trivial⟩ rfl
            · try simp only [Bool.and_eq_true, Bool.or_eq_true, Bool.not_eq_true', Bool.not_eq_false', Bool.and_eq_false_iff, Bool.or_eq_false_iff, decide_eq_true_eq, decide_eq_false_iff_not, Int.not_lt, Int.not_le, ne_eq, Decidable.not_not] at h6
              refine WC.exit ?_
              refine QX.exit_then ?_
              refine QX.exit_then ?_
              refine QX.exit_hit ?_
              refine QX.normal_in ?_
              refine QX.then_ ?_
              refine WC.region ?_
              refine SL.pure rfl rfl rfl (PureOp.move rfl) ?_
              refine SL.pure rfl rfl rfl (PureOp.add rfl rfl (fun _ => by omega)) ?_
              refine SL.pure rfl rfl rfl (PureOp.assign rfl) ?_
              refine SL.nil ?_
              obtain rfl : j = (nth rs k).n := by omega
              refine QX.round (s := (k, nx)) (μ := fun s => rs.length - s.1) 6 (k + 1, nx + (nth rs k).n) ⟨⟨by show k + 1 ≤ _; omega, by show nx + _ = (xk l (k + 1)).length; rw [xk, List.length_append, List.length_replicate]; omega⟩, by show rs.length - (k + 1) < rs.length - k; omega⟩ ⟨rfl, rfl, rfl, rfl, rfl, rfl, rfl, rfl, rfl, rfl, trivial⟩ rfl
        · try simp only [Bool.and_eq_true, Bool.or_eq_true, Bool.not_eq_true', Bool.not_eq_false', Bool.and_eq_false_iff, Bool.or_eq_false_iff, decide_eq_true_eq, decide_eq_false_iff_not, Int.not_lt, Int.not_le, ne_eq, Decidable.not_not] at h4
          refine WC.exit ?_
          refine QX.exit_then ?_
          refine QX.exit_then ?_
          refine QX.exit_hit ?_
          refine QX.then_ ?_
          refine WC.seq ?_
          refine WC.region ?_
          refine SL.pure rfl rfl rfl (PureOp.move rfl) ?_
          refine SL.pure rfl rfl rfl (PureOp.move rfl) ?_
          refine SL.pure rfl rfl rfl (PureOp.len rfl Try.underlying22) ?_
          refine SL.pure rfl rfl rfl (PureOp.eql rfl rfl) ?_
          refine SL.pure rfl rfl rfl (PureOp.move rfl) ?_
          refine SL.newg 143 true rfl ?_
          refine SL.gcalle (c := 1) rfl rfl rfl rfl rfl rfl rfl rfl rfl rfl callable7 (by intro hg; simp [gval] at hg; exact (fun w hw => knows_ok w)) ?_
          refine SL.pure rfl rfl rfl (PureOp.and_ rfl rfl rfl rfl) ?_
          refine SL.pure rfl rfl rfl (PureOp.assign rfl) ?_
          refine SL.nil_then ?_
          refine WC.ret ?_
          refine QX.ret1 rfl rfl ?_
          intro w hw
          have q : nx = n := by rw [hnx, show k = (gi l l.length).length from by omega, xk_all]; exact hn.symm
          simp [q]

end Go.Proofs.Ytdiegelbpdknaaa
