import Derived.Test.YtdiegelbpdknaaaMaL
namespace Go.Proofs.Ytdiegelbpdknaaa
open Go Go.RowKit Eng
set_option linter.unusedVariables false
set_option linter.unusedSimpArgs false

set_option maxHeartbeats 4000000 in
set_option maxRecDepth 100000 in
theorem joins_law (l : List Int) (ao : Option Addr) (n cap : Nat) (hn : n = l.length) (w0 : World) (hz : SliceIn w0 1 ao n cap (rowsF encI l)) (f t : Int) (hb : ∀ y ∈ l, y ≤ 9223372036854775807) : FnC Try.prog 4 [.slice ao n cap, .int .i64 f, .int .i64 t] w0 fun v w' => v = .bool true := by
  refine fnc (N := 40) Try.func4 rfl rfl rfl ?_
  refine WC.seq ?_
  refine WC.region ?_
  refine SL.pure rfl rfl rfl (PureOp.assign rfl) ?_
  refine SL.nil_then ?_
  refine WC.seq ?_
  refine WC.seq ?_
  refine WC.region ?_
  refine SL.pure rfl rfl rfl (PureOp.move rfl) ?_
  refine SL.pure rfl rfl rfl (PureOp.len rfl Try.underlying22) ?_
  refine SL.pure rfl rfl rfl (PureOp.gtr rfl rfl) ?_
  refine SL.nil_then ?_
  refine WC.cond rfl (fun h1 => ?_) (fun h1 => ?_)
  · try simp only [Bool.and_eq_true, Bool.or_eq_true, Bool.not_eq_true', Bool.not_eq_false', Bool.and_eq_false_iff, Bool.or_eq_false_iff, decide_eq_true_eq, decide_eq_false_iff_not, Int.not_lt, Int.not_le, ne_eq, Decidable.not_not] at h1
    refine WC.seq ?_
    refine WC.region ?_
    refine SL.calle rfl rfl rfl rfl rfl rfl callable7 (fun w hw => knows_ok w) ?_
    refine SL.pure rfl rfl rfl (PureOp.assign rfl) ?_
    refine SL.nil_then ?_
    refine WC.ret ?_
    refine QX.ret_then ?_
    refine QX.ret1 rfl rfl ?_
    intro w hw
    rfl
  · try simp only [Bool.and_eq_true, Bool.or_eq_true, Bool.not_eq_true', Bool.not_eq_false', Bool.and_eq_false_iff, Bool.or_eq_false_iff, decide_eq_true_eq, decide_eq_false_iff_not, Int.not_lt, Int.not_le, ne_eq, Decidable.not_not] at h1
    refine WC.skip ?_
    refine QX.then_ ?_
    refine WC.seq ?_
    refine WC.region ?_
    refine SL.pure rfl rfl rfl (PureOp.move rfl) ?_
    refine SL.pure rfl rfl rfl (PureOp.move rfl) ?_
    refine SL.pure rfl rfl rfl (PureOp.move rfl) ?_
    refine SL.callo (fun a c => .tuple #[.slice a (joinX l f t).length c, .int .i64 (joinE l f t)]) rfl rfl rfl rfl rfl rfl callable19 (fun w hw => join_ok l ao n cap hn w (hz.below hw.below) f t hb (by omega)) (fun ya yc => ?_)
    refine SL.pure rfl rfl rfl (PureOp.move rfl) ?_
    refine SL.pure rfl rfl rfl (PureOp.extract rfl rfl) ?_
    refine SL.pure rfl rfl rfl (PureOp.extract rfl rfl) ?_
    refine SL.pure rfl rfl rfl (PureOp.assign rfl) ?_
    refine SL.pure rfl rfl rfl (PureOp.assign rfl) ?_
    refine SL.nil_then ?_
    refine WC.seq ?_
    refine WC.region ?_
    refine SL.pure rfl rfl rfl (PureOp.move rfl) ?_
    refine SL.pure rfl rfl rfl (PureOp.move rfl) ?_
    refine SL.pure rfl rfl rfl (PureOp.move rfl) ?_
    refine SL.callo (fun a c => .tuple #[.slice a (joinX l f t).length c, .int .i64 (joinE l f t)]) rfl rfl rfl rfl rfl rfl callable20 (fun w hw => rjoin_ok l ao n cap hn w (hz.below hw.below) f t hb (by omega)) (fun za zc => ?_)
    refine SL.pure rfl rfl rfl (PureOp.move rfl) ?_
    refine SL.pure rfl rfl rfl (PureOp.extract rfl rfl) ?_
    refine SL.pure rfl rfl rfl (PureOp.extract rfl rfl) ?_
    refine SL.pure rfl rfl rfl (PureOp.assign rfl) ?_
    refine SL.pure rfl rfl rfl (PureOp.assign rfl) ?_
    refine SL.nil_then ?_
    refine WC.seq ?_
    refine WC.region ?_
    refine SL.pure rfl rfl rfl (PureOp.move rfl) ?_
    refine SL.pure rfl rfl rfl (PureOp.move rfl) ?_
    refine SL.calle rfl rfl rfl rfl rfl rfl callable12 (fun w hw => same_ok (joinX l f t) _ _ _ _ _ _ rfl rfl w (SliceIn.rows (enc := encI) (l := joinX l f t) (hw.mem (i := 0) rfl) encI_len (Nat.le_refl _)) (SliceIn.rows (enc := encI) (l := joinX l f t) (hw.mem (i := 1) rfl) encI_len (Nat.le_refl _)) (by have := joinX_le l f t; omega)) ?_
    refine SL.pure rfl rfl rfl (PureOp.move rfl) ?_
    refine SL.newg 32 true rfl ?_
    refine SL.gpure (c := 1) rfl rfl rfl rfl rfl rfl rfl (PureOp.move rfl) ?_
    refine SL.gpure (c := 1) rfl rfl rfl rfl rfl rfl rfl (PureOp.move rfl) ?_
    refine SL.gpure (c := 1) rfl rfl rfl rfl rfl rfl rfl (PureOp.eql rfl rfl) ?_
    refine SL.pure rfl rfl rfl (PureOp.and_ rfl rfl rfl rfl) ?_
    refine SL.pure rfl rfl rfl (PureOp.move rfl) ?_
    refine SL.newg 37 true rfl ?_
    refine SL.gcalle (c := 2) rfl rfl rfl rfl rfl rfl rfl rfl rfl rfl callable7 (by intro hg; simp [gval] at hg; exact (fun w hw => knows_ok w)) ?_
    refine SL.pure rfl rfl rfl (PureOp.and_ rfl rfl rfl rfl) ?_
    refine SL.pure rfl rfl rfl (PureOp.assign rfl) ?_
    refine SL.nil_then ?_
    refine WC.ret ?_
    refine QX.ret1 rfl rfl ?_
    intro w hw
    simp

set_option maxHeartbeats 4000000 in
set_option maxRecDepth 100000 in
theorem tells_law (l : List Int) (ao : Option Addr) (n cap : Nat) (hn : n = l.length) (w0 : World) (hz : SliceIn w0 1 ao n cap (rowsF encI l)) (x : Int) : FnC Try.prog 3 [.slice ao n cap, .int .i64 x] w0 fun v w' => v = .bool true := by
  refine fnc (N := 127) Try.func3 rfl rfl rfl ?_
  refine WC.seq ?_
  refine WC.region ?_
  refine SL.pure rfl rfl rfl (PureOp.assign rfl) ?_
  refine SL.nil_then ?_
  refine WC.seq ?_
  refine WC.seq ?_
  refine WC.region ?_
  refine SL.pure rfl rfl rfl (PureOp.move rfl) ?_
  refine SL.pure rfl rfl rfl (PureOp.len rfl Try.underlying22) ?_
  refine SL.pure rfl rfl rfl (PureOp.gtr rfl rfl) ?_
  refine SL.nil_then ?_
  refine WC.cond rfl (fun h1 => ?_) (fun h1 => ?_)
  · try simp only [Bool.and_eq_true, Bool.or_eq_true, Bool.not_eq_true', Bool.not_eq_false', Bool.and_eq_false_iff, Bool.or_eq_false_iff, decide_eq_true_eq, decide_eq_false_iff_not, Int.not_lt, Int.not_le, ne_eq, Decidable.not_not] at h1
    refine WC.seq ?_
    refine WC.region ?_
    refine SL.calle rfl rfl rfl rfl rfl rfl callable7 (fun w hw => knows_ok w) ?_
    refine SL.pure rfl rfl rfl (PureOp.assign rfl) ?_
    refine SL.nil_then ?_
    refine WC.ret ?_
    refine QX.ret_then ?_
    refine QX.ret1 rfl rfl ?_
    intro w hw
    rfl
  · try simp only [Bool.and_eq_true, Bool.or_eq_true, Bool.not_eq_true', Bool.not_eq_false', Bool.and_eq_false_iff, Bool.or_eq_false_iff, decide_eq_true_eq, decide_eq_false_iff_not, Int.not_lt, Int.not_le, ne_eq, Decidable.not_not] at h1
    have hn300 : n ≤ 300 := by omega
    refine WC.skip ?_
    refine QX.then_ ?_
    refine WC.seq ?_
    refine WC.region ?_
    refine SL.pure rfl rfl rfl (PureOp.move rfl) ?_
    refine SL.callg (fun a c rs => .tuple #[.slice a rs.length c, .int .i64 (checkF l)]) (fun rs => Rc l rs) rfl rfl rfl rfl rfl rfl callable8 (fun w hw => Groups_ok l ao n cap hn w (hz.below hw.below) (by omega)) (fun ga gc rs hRc => ?_)
    refine SL.pure rfl rfl rfl (PureOp.move rfl) ?_
    refine SL.pure rfl rfl rfl (PureOp.extract rfl rfl) ?_
    refine SL.pure rfl rfl rfl (PureOp.extract rfl rfl) ?_
    refine SL.pure rfl rfl rfl (PureOp.assign rfl) ?_
    refine SL.pure rfl rfl rfl (PureOp.assign rfl) ?_
    refine SL.nil_then ?_
    refine WC.seq ?_
    refine WC.region ?_
    refine SL.pure rfl rfl rfl (PureOp.move rfl) ?_
    refine SL.callg (fun a c rs => .tuple #[.slice a rs.length c, .int .i64 (checkF l)]) (fun rs => Rc l rs) rfl rfl rfl rfl rfl rfl callable9 (fun w hw => rGroups_ok l ao n cap hn w (hz.below hw.below) (by omega)) (fun gb gd rs2 hRc2 => ?_)
    refine SL.pure rfl rfl rfl (PureOp.move rfl) ?_
    refine SL.pure rfl rfl rfl (PureOp.extract rfl rfl) ?_
    refine SL.pure rfl rfl rfl (PureOp.extract rfl rfl) ?_
    refine SL.pure rfl rfl rfl (PureOp.assign rfl) ?_
    refine SL.pure rfl rfl rfl (PureOp.assign rfl) ?_
    refine SL.nil_then ?_
    refine WC.seq ?_
    refine WC.seq ?_
    refine WC.region ?_
    refine SL.pure rfl rfl rfl (PureOp.move rfl) ?_
    refine SL.pure rfl rfl rfl (PureOp.len rfl Try.underlying24) ?_
    refine SL.pure rfl rfl rfl (PureOp.move rfl) ?_
    refine SL.pure rfl rfl rfl (PureOp.len rfl Try.underlying24) ?_
    refine SL.pure rfl rfl rfl (PureOp.neq rfl rfl) ?_
    refine SL.pure rfl rfl rfl (PureOp.move rfl) ?_
    refine SL.newg 35 false rfl ?_
    refine SL.gpure (c := 1) rfl rfl rfl rfl rfl rfl rfl (PureOp.move rfl) ?_
    refine SL.gpure (c := 1) rfl rfl rfl rfl rfl rfl rfl (PureOp.move rfl) ?_
    refine SL.gpure (c := 1) rfl rfl rfl rfl rfl rfl rfl (PureOp.neq rfl rfl) ?_
    refine SL.pure rfl rfl rfl (PureOp.or_ rfl rfl rfl rfl) ?_
    refine SL.pure rfl rfl rfl (PureOp.move rfl) ?_
    refine SL.newg 40 false rfl ?_
    refine SL.gpure (c := 2) rfl rfl rfl rfl rfl rfl rfl (PureOp.move rfl) ?_
    refine SL.gcalle (c := 2) rfl rfl rfl rfl rfl rfl rfl rfl rfl rfl callable10 (by intro hg; simp [gval] at hg; exact (fun w hw => check_ok l ao n cap hn w (hz.below hw.below) (by omega))) ?_
    refine SL.gpure (c := 2) rfl rfl rfl rfl rfl rfl rfl (PureOp.move rfl) ?_
    refine SL.gcalle (c := 2) rfl rfl rfl rfl rfl rfl rfl rfl rfl rfl callable11 (by intro hg; simp [gval] at hg; exact (fun w hw => rcheck_ok l ao n cap hn w (hz.below hw.below) (by omega))) ?_
    refine SL.gpure (c := 2) rfl rfl rfl rfl rfl rfl rfl (PureOp.neq rfl rfl) ?_
    refine SL.pure rfl rfl rfl (PureOp.or_ rfl rfl rfl rfl) ?_
    refine SL.nil_then ?_
    refine WC.cond rfl (fun h2 => ?_) (fun h2 => ?_)
    · try simp only [Bool.and_eq_true, Bool.or_eq_true, Bool.not_eq_true', Bool.not_eq_false', Bool.and_eq_false_iff, Bool.or_eq_false_iff, decide_eq_true_eq, decide_eq_false_iff_not, Int.not_lt, Int.not_le, ne_eq, Decidable.not_not] at h2
      exact absurd h2 (by simp [hRc.len2 hRc2])
    · try simp only [Bool.and_eq_true, Bool.or_eq_true, Bool.not_eq_true', Bool.not_eq_false', Bool.and_eq_false_iff, Bool.or_eq_false_iff, decide_eq_true_eq, decide_eq_false_iff_not, Int.not_lt, Int.not_le, ne_eq, Decidable.not_not] at h2
      refine WC.skip ?_
      refine QX.then_ ?_
      refine WC.seq ?_
      refine WC.seq ?_
      refine WC.region ?_
      refine SL.pure rfl rfl rfl (PureOp.assign rfl) ?_
      refine SL.nil_then ?_
      refine WC.block ?_
      refine WC.loop (σ := Nat) (fun s => [(0, 0, .slice ao n cap), (1, 0, .int .i64 x), (5, 0, .slice ga rs.length gc), (7, 0, .slice gb rs2.length gd), (9, 0, .int .i64 (s : Nat))]) (fun _ => [.own w0.heap.size ga rs.length gc 22 1 (rs.map FRow.val), .fam w0.heap.size 3 1 rs, .own w0.heap.size gb rs2.length gd 22 1 (rs2.map FRow.val), .fam w0.heap.size 3 1 rs2]) (fun k => k ≤ rs.length) (fun k => rs.length - k) 4 (0) (Nat.zero_le _) ⟨rfl, rfl, rfl, rfl, rfl, rfl, rfl, rfl, rfl, rfl, trivial⟩ rfl ?_
      rintro k hk
      refine WC.seq ?_
      refine WC.seq ?_
      refine WC.region ?_
      refine SL.pure rfl rfl rfl (PureOp.move rfl) ?_
      refine SL.pure rfl rfl rfl (PureOp.move rfl) ?_
      refine SL.pure rfl rfl rfl (PureOp.len rfl Try.underlying24) ?_
      refine SL.pure rfl rfl rfl (PureOp.lss rfl rfl) ?_
      refine SL.nil_then ?_
      refine WC.cond rfl (fun h3 => ?_) (fun h3 => ?_)
      · try simp only [Bool.and_eq_true, Bool.or_eq_true, Bool.not_eq_true', Bool.not_eq_false', Bool.and_eq_false_iff, Bool.or_eq_false_iff, decide_eq_true_eq, decide_eq_false_iff_not, Int.not_lt, Int.not_le, ne_eq, Decidable.not_not] at h3
        have hkl : k < rs.length := by omega
        have hkl2 : k < rs2.length := by rw [← hRc.len2 hRc2]; exact hkl
        obtain ⟨hc0, hR⟩ := hRc.rk hkl
        obtain ⟨_, hR2⟩ := hRc2.rk hkl2
        obtain ⟨hn1, hx1⟩ := hR.at_ hkl
        obtain ⟨hn2, hx2⟩ := hR2.at_ hkl2
        have hkg : k < (gi l l.length).length := by rw [← hR.len]; exact hkl
        have hle := (gi_inv l l.length).le hkg
        refine WC.skip ?_
        refine QX.then_ ?_
        refine WC.seq ?_
        refine WC.block ?_
        refine WC.seq ?_
        refine WC.quiet rfl (by kernel_rfl) ?_
        refine SQ.pure rfl rfl rfl (PureOp.move rfl) ?_
        refine SQ.pure rfl rfl rfl (PureOp.move rfl) ?_
        refine SQ.pure rfl rfl rfl (PureOp.indexAddrN Try.underlying24 sz22 rfl rfl (AoOk.own 0 rfl) (fun _ => by (have q := hRc.le; omega))) ?_
        refine SQ.pure rfl rfl rfl (PureOp.load Try.underlying22 rfl rfl (fun _ => (CellIs.ownc 0 rfl k 0 (by first | exact vals_get (rs := rs) hkl | exact vals_get (rs := rs2) hkl2)))) ?_
        refine SQ.pure rfl rfl rfl (PureOp.move rfl) ?_
        refine SQ.pure rfl rfl rfl (PureOp.move rfl) ?_
        refine SQ.pure rfl rfl rfl (PureOp.indexAddrN Try.underlying24 sz22 rfl rfl (AoOk.own 2 rfl) (fun _ => by (have q := hRc.le; omega))) ?_
        refine SQ.pure rfl rfl rfl (PureOp.load Try.underlying22 rfl rfl (fun _ => (CellIs.ownc 2 rfl k 0 (by first | exact vals_get (rs := rs) hkl | exact vals_get (rs := rs2) hkl2)))) ?_
        refine SQ.calle rfl rfl rfl rfl rfl rfl callable12 (fun w hw => same_ok (il (nth (gi l l.length) k).1 (nth (gi l l.length) k).2) _ _ _ _ _ _ (by rw [il_length]; exact hn1) (by rw [il_length]; exact hn2) w (fam_in hw 1 rfl k hkl (hR.in_ hkl)) (fam_in hw 3 rfl k hkl2 (hR2.in_ hkl2)) (by omega)) ?_
        refine SQ.pure rfl rfl rfl (PureOp.not rfl) ?_
        refine SQ.nil_then ?_
        refine WC.cond rfl (fun h4 => ?_) (fun h4 => ?_)
        · try simp only [Bool.and_eq_true, Bool.or_eq_true, Bool.not_eq_true', Bool.not_eq_false', Bool.and_eq_false_iff, Bool.or_eq_false_iff, decide_eq_true_eq, decide_eq_false_iff_not, Int.not_lt, Int.not_le, ne_eq, Decidable.not_not] at h4
          exact absurd h4 (by simp)
        · try simp only [Bool.and_eq_true, Bool.or_eq_true, Bool.not_eq_true', Bool.not_eq_false', Bool.and_eq_false_iff, Bool.or_eq_false_iff, decide_eq_true_eq, decide_eq_false_iff_not, Int.not_lt, Int.not_le, ne_eq, Decidable.not_not] at h4
          refine WC.skip ?_
          refine QX.normal_in ?_
          refine QX.then_ ?_
          refine WC.region ?_
          refine SL.pure rfl rfl rfl (PureOp.move rfl) ?_
          refine SL.pure rfl rfl rfl (PureOp.add rfl rfl (fun _ => by (have q := hRc.le; omega))) ?_
          refine SL.pure rfl rfl rfl (PureOp.assign rfl) ?_
          refine SL.nil ?_
          refine QX.round 4 (k + 1) ⟨by omega, by omega⟩ ⟨rfl, rfl, rfl, rfl, rfl, rfl, rfl, rfl, rfl, rfl, trivial⟩ rfl
      · try simp only [Bool.and_eq_true, Bool.or_eq_true, Bool.not_eq_true', Bool.not_eq_false', Bool.and_eq_false_iff, Bool.or_eq_false_iff, decide_eq_true_eq, decide_eq_false_iff_not, Int.not_lt, Int.not_le, ne_eq, Decidable.not_not] at h3
        refine WC.exit ?_
        refine QX.exit_then ?_
        refine QX.exit_then ?_
        refine QX.exit_hit ?_
        refine QX.then_ ?_
        refine WC.seq ?_
        refine WC.region ?_
        refine SL.pure rfl rfl rfl (PureOp.move rfl) ?_
        refine SL.pure rfl rfl rfl (PureOp.move rfl) ?_
        refine SL.callo (fun a c => .tuple #[.slice a (withX l x).length c, .int .i64 (withE l x)]) rfl rfl rfl rfl rfl rfl callable13 (fun w hw => with_ok l ao n cap hn w (hz.below hw.below) x (by omega)) (fun xa xc => ?_)
        refine SL.pure rfl rfl rfl (PureOp.move rfl) ?_
        refine SL.pure rfl rfl rfl (PureOp.extract rfl rfl) ?_
        refine SL.pure rfl rfl rfl (PureOp.extract rfl rfl) ?_
        refine SL.pure rfl rfl rfl (PureOp.assign rfl) ?_
        refine SL.pure rfl rfl rfl (PureOp.assign rfl) ?_
        refine SL.nil_then ?_
        refine WC.seq ?_
        refine WC.region ?_
        refine SL.pure rfl rfl rfl (PureOp.move rfl) ?_
        refine SL.pure rfl rfl rfl (PureOp.move rfl) ?_
        refine SL.callo (fun a c => .tuple #[.slice a (withX l x).length c, .int .i64 (withE l x)]) rfl rfl rfl rfl rfl rfl callable14 (fun w hw => rwith_ok l ao n cap hn w (hz.below hw.below) x (by omega)) (fun ya yc => ?_)
        refine SL.pure rfl rfl rfl (PureOp.move rfl) ?_
        refine SL.pure rfl rfl rfl (PureOp.extract rfl rfl) ?_
        refine SL.pure rfl rfl rfl (PureOp.extract rfl rfl) ?_
        refine SL.pure rfl rfl rfl (PureOp.assign rfl) ?_
        refine SL.pure rfl rfl rfl (PureOp.assign rfl) ?_
        refine SL.nil_then ?_
        refine WC.seq ?_
        refine WC.seq ?_
        refine WC.region ?_
        refine SL.pure rfl rfl rfl (PureOp.move rfl) ?_
        refine SL.pure rfl rfl rfl (PureOp.move rfl) ?_
        refine SL.calle rfl rfl rfl rfl rfl rfl callable12 (fun w hw => same_ok (withX l x) _ _ _ _ _ _ rfl rfl w (SliceIn.rows (enc := encI) (l := withX l x) (hw.mem (i := 4) rfl) encI_len (Nat.le_refl _)) (SliceIn.rows (enc := encI) (l := withX l x) (hw.mem (i := 5) rfl) encI_len (Nat.le_refl _)) (by have := withX_le l x; omega)) ?_
        refine SL.pure rfl rfl rfl (PureOp.not rfl) ?_
        refine SL.pure rfl rfl rfl (PureOp.move rfl) ?_
        refine SL.newg 79 false rfl ?_
        refine SL.gpure (c := 1) rfl rfl rfl rfl rfl rfl rfl (PureOp.move rfl) ?_
        refine SL.gpure (c := 1) rfl rfl rfl rfl rfl rfl rfl (PureOp.move rfl) ?_
        refine SL.gpure (c := 1) rfl rfl rfl rfl rfl rfl rfl (PureOp.neq rfl rfl) ?_
        refine SL.pure rfl rfl rfl (PureOp.or_ rfl rfl rfl rfl) ?_
        refine SL.nil_then ?_
        refine WC.cond rfl (fun h5 => ?_) (fun h5 => ?_)
        · try simp only [Bool.and_eq_true, Bool.or_eq_true, Bool.not_eq_true', Bool.not_eq_false', Bool.and_eq_false_iff, Bool.or_eq_false_iff, decide_eq_true_eq, decide_eq_false_iff_not, Int.not_lt, Int.not_le, ne_eq, Decidable.not_not] at h5
          exact absurd h5 (by simp)
        · try simp only [Bool.and_eq_true, Bool.or_eq_true, Bool.not_eq_true', Bool.not_eq_false', Bool.and_eq_false_iff, Bool.or_eq_false_iff, decide_eq_true_eq, decide_eq_false_iff_not, Int.not_lt, Int.not_le, ne_eq, Decidable.not_not] at h5
          refine WC.skip ?_
          refine QX.then_ ?_
          refine WC.seq ?_
          refine WC.region ?_
          refine SL.pure rfl rfl rfl (PureOp.move rfl) ?_
          refine SL.pure rfl rfl rfl (PureOp.move rfl) ?_
          refine SL.callo (fun a c => .tuple #[.slice a (partX l x).length c, .int .i64 (withE l x)]) rfl rfl rfl rfl rfl rfl callable15 (fun w hw => part_ok l ao n cap hn w (hz.below hw.below) x (by omega)) (fun ua uc => ?_)
          refine SL.pure rfl rfl rfl (PureOp.move rfl) ?_
          refine SL.pure rfl rfl rfl (PureOp.extract rfl rfl) ?_
          refine SL.pure rfl rfl rfl (PureOp.extract rfl rfl) ?_
          refine SL.pure rfl rfl rfl (PureOp.assign rfl) ?_
          refine SL.pure rfl rfl rfl (PureOp.assign rfl) ?_
          refine SL.nil_then ?_
          refine WC.seq ?_
          refine WC.region ?_
          refine SL.pure rfl rfl rfl (PureOp.move rfl) ?_
          refine SL.pure rfl rfl rfl (PureOp.move rfl) ?_
          refine SL.callo (fun a c => .tuple #[.slice a (partX l x).length c, .int .i64 (withE l x)]) rfl rfl rfl rfl rfl rfl callable16 (fun w hw => rpart_ok l ao n cap hn w (hz.below hw.below) x (by omega)) (fun va vc => ?_)
          refine SL.pure rfl rfl rfl (PureOp.move rfl) ?_
          refine SL.pure rfl rfl rfl (PureOp.extract rfl rfl) ?_
          refine SL.pure rfl rfl rfl (PureOp.extract rfl rfl) ?_
          refine SL.pure rfl rfl rfl (PureOp.assign rfl) ?_
          refine SL.pure rfl rfl rfl (PureOp.assign rfl) ?_
          refine SL.nil_then ?_
          refine WC.seq ?_
          refine WC.region ?_
          refine SL.pure rfl rfl rfl (PureOp.move rfl) ?_
          refine SL.callo (fun a c => .tuple #[.slice a (normX l).length c, .int .i64 (checkF l)]) rfl rfl rfl rfl rfl rfl callable17 (fun w hw => normal_ok l ao n cap hn w (hz.below hw.below) (by omega)) (fun pa pc => ?_)
          refine SL.pure rfl rfl rfl (PureOp.move rfl) ?_
          refine SL.pure rfl rfl rfl (PureOp.extract rfl rfl) ?_
          refine SL.pure rfl rfl rfl (PureOp.extract rfl rfl) ?_
          refine SL.pure rfl rfl rfl (PureOp.assign rfl) ?_
          refine SL.pure rfl rfl rfl (PureOp.assign rfl) ?_
          refine SL.nil_then ?_
          refine WC.seq ?_
          refine WC.region ?_
          refine SL.pure rfl rfl rfl (PureOp.move rfl) ?_
          refine SL.callo (fun a c => .tuple #[.slice a (normX l).length c, .int .i64 (checkF l)]) rfl rfl rfl rfl rfl rfl callable18 (fun w hw => rnormal_ok l ao n cap hn w (hz.below hw.below) (by omega)) (fun qa qc => ?_)
          refine SL.pure rfl rfl rfl (PureOp.move rfl) ?_
          refine SL.pure rfl rfl rfl (PureOp.extract rfl rfl) ?_
          refine SL.pure rfl rfl rfl (PureOp.extract rfl rfl) ?_
          refine SL.pure rfl rfl rfl (PureOp.assign rfl) ?_
          refine SL.pure rfl rfl rfl (PureOp.assign rfl) ?_
          refine SL.nil_then ?_
          refine WC.seq ?_
          refine WC.region ?_
          refine SL.pure rfl rfl rfl (PureOp.move rfl) ?_
          refine SL.pure rfl rfl rfl (PureOp.move rfl) ?_
          refine SL.calle rfl rfl rfl rfl rfl rfl callable12 (fun w hw => same_ok (partX l x) _ _ _ _ _ _ rfl rfl w (SliceIn.rows (enc := encI) (l := partX l x) (hw.mem (i := 6) rfl) encI_len (Nat.le_refl _)) (SliceIn.rows (enc := encI) (l := partX l x) (hw.mem (i := 7) rfl) encI_len (Nat.le_refl _)) (by have := partX_le l x; omega)) ?_
          refine SL.pure rfl rfl rfl (PureOp.move rfl) ?_
          refine SL.newg 109 true rfl ?_
          refine SL.gpure (c := 2) rfl rfl rfl rfl rfl rfl rfl (PureOp.move rfl) ?_
          refine SL.gpure (c := 2) rfl rfl rfl rfl rfl rfl rfl (PureOp.move rfl) ?_
          refine SL.gpure (c := 2) rfl rfl rfl rfl rfl rfl rfl (PureOp.eql rfl rfl) ?_
          refine SL.pure rfl rfl rfl (PureOp.and_ rfl rfl rfl rfl) ?_
          refine SL.pure rfl rfl rfl (PureOp.move rfl) ?_
          refine SL.newg 114 true rfl ?_
          refine SL.gpure (c := 3) rfl rfl rfl rfl rfl rfl rfl (PureOp.move rfl) ?_
          refine SL.gpure (c := 3) rfl rfl rfl rfl rfl rfl rfl (PureOp.move rfl) ?_
          refine SL.gcalle (c := 3) rfl rfl rfl rfl rfl rfl rfl rfl rfl rfl callable12 (by intro hg; simp [gval] at hg; exact (fun w hw => same_ok (normX l) _ _ _ _ _ _ rfl rfl w (SliceIn.rows (enc := encI) (l := normX l) (hw.mem (i := 8) rfl) encI_len (Nat.le_refl _)) (SliceIn.rows (enc := encI) (l := normX l) (hw.mem (i := 9) rfl) encI_len (Nat.le_refl _)) (by have := normX_le l; omega))) ?_
          refine SL.pure rfl rfl rfl (PureOp.and_ rfl rfl rfl rfl) ?_
          refine SL.pure rfl rfl rfl (PureOp.move rfl) ?_
          refine SL.newg 119 true rfl ?_
          refine SL.gpure (c := 4) rfl rfl rfl rfl rfl rfl rfl (PureOp.move rfl) ?_
          refine SL.gpure (c := 4) rfl rfl rfl rfl rfl rfl rfl (PureOp.move rfl) ?_
          refine SL.gpure (c := 4) rfl rfl rfl rfl rfl rfl rfl (PureOp.eql rfl rfl) ?_
          refine SL.pure rfl rfl rfl (PureOp.and_ rfl rfl rfl rfl) ?_
          refine SL.pure rfl rfl rfl (PureOp.move rfl) ?_
          refine SL.newg 124 true rfl ?_
          refine SL.gcalle (c := 5) rfl rfl rfl rfl rfl rfl rfl rfl rfl rfl callable7 (by intro hg; simp [gval] at hg; exact (fun w hw => knows_ok w)) ?_
          refine SL.pure rfl rfl rfl (PureOp.and_ rfl rfl rfl rfl) ?_
          refine SL.pure rfl rfl rfl (PureOp.assign rfl) ?_
          refine SL.nil_then ?_
          refine WC.ret ?_
          refine QX.ret1 rfl rfl ?_
          intro w hw
          simp

end Go.Proofs.Ytdiegelbpdknaaa
