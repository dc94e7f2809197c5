import Derived.Test.YtdiegelbpdknaaaMaC
namespace Go.Proofs.Ytdiegelbpdknaaa
open Go Go.RowKit Eng
set_option linter.unusedVariables false
set_option linter.unusedSimpArgs false

set_option maxHeartbeats 4000000 in
set_option maxRecDepth 100000 in
theorem check_ok (l : List Int) (ao : Option Addr) (n cap : Nat) (hn : n = l.length) (w0 : World) (hz : SliceIn w0 1 ao n cap (rowsF encI l)) (hnb : n ≤ 1000) : FnC Try.prog 10 [.slice ao n cap] w0 fun v w' => v = .int .i64 (checkF l) := by
  refine fnc (N := 51) Try.func10 rfl rfl rfl ?_
  refine WC.seq ?_
  refine WC.region ?_
  refine SL.pure rfl rfl rfl (PureOp.assign rfl) ?_
  refine SL.nil_then ?_
  refine WC.seq ?_
  refine WC.seq ?_
  refine WC.region ?_
  refine SL.pure rfl rfl rfl (PureOp.move rfl) ?_
  refine SL.pure rfl rfl rfl (PureOp.len rfl Try.underlying22) ?_
  refine SL.pure rfl rfl rfl (PureOp.move rfl) ?_
  refine SL.nil_then ?_
  refine WC.block ?_
  refine WC.loop (σ := Nat) (fun s => [(0, 0, .slice ao n cap), (8, 0, .slice ao n cap), (9, 0, .int .i64 n), (10, 0, .int .i64 (s : Nat))]) (fun _ => []) (fun k => k ≤ n ∧ negs (l.drop k) = negs l) (fun k => n - k) 0 (0) (⟨Nat.zero_le _, rfl⟩) ⟨rfl, rfl, rfl, rfl, rfl, rfl, rfl, rfl, trivial⟩ rfl ?_
  rintro k0 ⟨hk0, hI0⟩
  refine WC.seq ?_
  refine WC.region ?_
  refine SL.pure rfl rfl rfl (PureOp.lss rfl rfl) ?_
  refine SL.nil_then ?_
  refine WC.seq ?_
  refine WC.cond rfl (fun h1 => ?_) (fun h1 => ?_)
  · try simp only [Bool.and_eq_true, Bool.or_eq_true, Bool.not_eq_true', Bool.not_eq_false', Bool.and_eq_false_iff, Bool.or_eq_false_iff, decide_eq_true_eq, decide_eq_false_iff_not, Int.not_lt, Int.not_le, ne_eq, Decidable.not_not] at h1
    refine WC.skip ?_
    refine QX.then_ ?_
    refine WC.seq ?_
    refine WC.block ?_
    refine WC.seq ?_
    refine WC.region ?_
    refine SL.pure rfl rfl rfl (PureOp.indexAddrN Try.underlying22 sz3 rfl rfl (AoOk.in_ hz) (fun _ => by omega)) ?_
    refine SL.pure rfl rfl rfl (PureOp.load Try.underlying3 rfl rfl (fun _ => (CellIs.in_ hz _ 0 (by omega) (by omega)))) ?_
    refine SL.pure rfl rfl rfl (PureOp.assign rfl) ?_
    refine SL.nil_then ?_
    refine WC.seq ?_
    refine WC.region ?_
    refine SL.pure rfl rfl rfl (PureOp.move rfl) ?_
    refine SL.pure rfl rfl rfl (PureOp.lss rfl rfl) ?_
    refine SL.nil_then ?_
    refine WC.cond rfl (fun h2 => ?_) (fun h2 => ?_)
    · try simp only [Bool.and_eq_true, Bool.or_eq_true, Bool.not_eq_true', Bool.not_eq_false', Bool.and_eq_false_iff, Bool.or_eq_false_iff, decide_eq_true_eq, decide_eq_false_iff_not, Int.not_lt, Int.not_le, ne_eq, Decidable.not_not] at h2
      refine WC.seq ?_
      refine WC.region ?_
      refine SL.pure rfl rfl rfl (PureOp.assign rfl) ?_
      refine SL.nil_then ?_
      refine WC.ret ?_
      refine QX.ret_in ?_
      refine QX.ret_then ?_
      refine QX.ret_then ?_
      refine QX.ret_in ?_
      refine QX.ret_then ?_
      refine QX.ret1 rfl rfl ?_
      intro w hw
      have hneg : negs l = true := by
        have e := drop_nth (l := l) (i := k0) (by omega)
        rw [← hI0, e]; simp [negs]; left; omega
      rw [checkF, if_pos hneg]
    · try simp only [Bool.and_eq_true, Bool.or_eq_true, Bool.not_eq_true', Bool.not_eq_false', Bool.and_eq_false_iff, Bool.or_eq_false_iff, decide_eq_true_eq, decide_eq_false_iff_not, Int.not_lt, Int.not_le, ne_eq, Decidable.not_not] at h2
      refine WC.skip ?_
      refine QX.normal_in ?_
      refine QX.then_ ?_
      refine WC.region ?_
      refine SL.pure rfl rfl rfl (PureOp.add rfl rfl (fun _ => by omega)) ?_
      refine SL.pure rfl rfl rfl (PureOp.move rfl) ?_
      refine SL.nil ?_
      have e := drop_nth (l := l) (i := k0) (by omega)
      rw [e] at hI0
      have hI1 : negs (l.drop (k0 + 1)) = negs l := by rw [← hI0]; simp [negs]; omega
      refine QX.round 0 (k0 + 1) ⟨⟨by omega, hI1⟩, by omega⟩ ⟨rfl, rfl, rfl, rfl, rfl, rfl, rfl, rfl, trivial⟩ rfl
  · try simp only [Bool.and_eq_true, Bool.or_eq_true, Bool.not_eq_true', Bool.not_eq_false', Bool.and_eq_false_iff, Bool.or_eq_false_iff, decide_eq_true_eq, decide_eq_false_iff_not, Int.not_lt, Int.not_le, ne_eq, Decidable.not_not] at h1
    refine WC.exit ?_
    refine QX.exit_then ?_
    refine QX.exit_then ?_
    refine QX.exit_hit ?_
    refine QX.then_ ?_
    refine WC.seq ?_
    refine WC.seq ?_
    refine WC.region ?_
    refine SL.pure rfl rfl rfl (PureOp.move rfl) ?_
    refine SL.callg (fun a c rs => .slice a rs.length c) (fun rs => Rk l l.length rs) rfl rfl rfl rfl rfl rfl callable21 (fun w hw => groups_ok l ao n cap hn w (hz.below hw.below) hnb) (fun ga gc rs hR => ?_)
    refine SL.pure rfl rfl rfl (PureOp.len rfl Try.underlying24) ?_
    refine SL.pure rfl rfl rfl (PureOp.move rfl) ?_
    refine SL.nil_then ?_
    refine WC.block ?_
    refine WC.loop (σ := Nat) (fun s => [(0, 0, .slice ao n cap), (18, 0, .slice ga rs.length gc), (19, 0, .int .i64 (rs.length : Nat)), (20, 0, .int .i64 (s : Nat))]) (fun _ => [.own w0.heap.size ga rs.length gc 22 1 (rs.map FRow.val), .fam w0.heap.size 3 1 rs]) (fun k => k ≤ rs.length ∧ ((gi l l.length).drop k).any (badI l) = (gi l l.length).any (badI l)) (fun k => rs.length - k) 2 (0) (⟨Nat.zero_le _, rfl⟩) ⟨rfl, rfl, rfl, rfl, rfl, rfl, rfl, rfl, trivial⟩ rfl ?_
    rintro k ⟨hk, hI⟩
    refine WC.seq ?_
    refine WC.region ?_
    refine SL.pure rfl rfl rfl (PureOp.lss rfl rfl) ?_
    refine SL.nil_then ?_
    refine WC.seq ?_
    refine WC.cond rfl (fun h3 => ?_) (fun h3 => ?_)
    · try simp only [Bool.and_eq_true, Bool.or_eq_true, Bool.not_eq_true', Bool.not_eq_false', Bool.and_eq_false_iff, Bool.or_eq_false_iff, decide_eq_true_eq, decide_eq_false_iff_not, Int.not_lt, Int.not_le, ne_eq, Decidable.not_not] at h3
      have hkl : k < rs.length := by omega
      have hgl := gi_le l l.length
      have hRl := hR.len
      obtain ⟨hn1, hx1⟩ := hR.at_ hkl
      have hkg : k < (gi l l.length).length := by rw [← hR.len]; exact hkl
      have hle := (gi_inv l l.length).le hkg
      have hm1 := (gi_inv l l.length).m1 k hkg
      have hA : ((((nth (gi l l.length) k).1 + (0 : Int).toNat : Nat) : Int).toNat) = (nth (gi l l.length) k).1 := by simp
      have hL : (((((nth (gi l l.length) k).1 + (((nth rs k).n : Int) - 1).toNat : Nat) : Int) + 1).toNat) = (nth (gi l l.length) k).1 + (nth (gi l l.length) k).2 := by omega
      have hT : (l.drop ((nth (gi l l.length) k).1 + (nth (gi l l.length) k).2)).take (n - ((nth (gi l l.length) k).1 + (nth (gi l l.length) k).2)) = l.drop ((nth (gi l l.length) k).1 + (nth (gi l l.length) k).2) := List.take_of_length_le (by rw [List.length_drop]; omega)
      refine WC.skip ?_
      refine QX.then_ ?_
      refine WC.seq ?_
      refine WC.block ?_
      refine WC.seq ?_
      refine WC.region ?_
      refine SL.pure rfl rfl rfl (PureOp.indexAddrN Try.underlying24 sz22 rfl rfl (AoOk.own 0 rfl) (fun _ => by omega)) ?_
      refine SL.pure rfl rfl rfl (PureOp.load Try.underlying22 rfl rfl (fun _ => (CellIs.ownc 0 rfl k 0 (by exact vals_get hkl)))) ?_
      refine SL.pure rfl rfl rfl (PureOp.assign rfl) ?_
      refine SL.nil_then ?_
      refine WC.seq ?_
      refine WC.region ?_
      refine SL.pure rfl rfl rfl (PureOp.move rfl) ?_
      refine SL.pure rfl rfl rfl (PureOp.move rfl) ?_
      refine SL.pure rfl rfl rfl (PureOp.indexAddr Try.underlying22 sz3 rfl rfl (AoOk.fam 1 rfl k hkl) (fun _ => by omega)) ?_
      refine SL.pure rfl rfl rfl (PureOp.load Try.underlying3 rfl rfl (fun _ => (CellIs.fam 1 rfl k hkl (0 : Int).toNat 0 (by exact hR.get hkl (by omega))))) ?_
      refine SL.pure rfl rfl rfl (PureOp.indexAddr Try.underlying22 sz3 rfl rfl (AoOk.in_ hz) (fun _ => by omega)) ?_
      refine SL.pure rfl rfl rfl (PureOp.load Try.underlying3 rfl rfl (fun _ => (CellIs.in_ hz ((((nth (gi l l.length) k).1 + (0 : Int).toNat : Nat) : Int).toNat) 0 (by omega) (by omega)))) ?_
      refine SL.pure rfl rfl rfl (PureOp.assign rfl) ?_
      refine SL.nil_then ?_
      refine WC.seq ?_
      refine WC.region ?_
      refine SL.pure rfl rfl rfl (PureOp.move rfl) ?_
      refine SL.pure rfl rfl rfl (PureOp.gtr rfl rfl) ?_
      refine SL.pure rfl rfl rfl (PureOp.move rfl) ?_
      refine SL.newg 32 true rfl ?_
      refine SL.gpure (c := 1) rfl rfl rfl rfl rfl rfl rfl (PureOp.move rfl) ?_
      refine SL.gpure (c := 1) rfl rfl rfl rfl rfl rfl rfl (PureOp.len rfl Try.underlying22) ?_
      refine SL.gpure (c := 1) rfl rfl rfl rfl rfl rfl rfl (PureOp.eql rfl rfl) ?_
      refine SL.gpure (c := 1) rfl rfl rfl rfl rfl rfl rfl (PureOp.move rfl) ?_
      refine SL.newg 36 false rfl ?_
      refine SL.gpure (c := 2) rfl rfl rfl rfl rfl rfl rfl (PureOp.move rfl) ?_
      refine SL.gpure (c := 2) rfl rfl rfl rfl rfl rfl rfl (PureOp.move rfl) ?_
      refine SL.gpure (c := 2) rfl rfl rfl rfl rfl rfl rfl (PureOp.move rfl) ?_
      refine SL.gpure (c := 2) rfl rfl rfl rfl rfl rfl rfl (PureOp.len rfl Try.underlying22) ?_
      refine SL.gpure (c := 2) rfl rfl rfl rfl rfl rfl rfl (PureOp.sub rfl rfl (by intro hg; simp [gval] at hg; omega)) ?_
      refine SL.gpure (c := 2) rfl rfl rfl rfl rfl rfl rfl (PureOp.indexAddr Try.underlying22 sz3 rfl rfl (AoOk.fam 1 rfl k hkl) (by intro hg; simp [gval] at hg; omega)) ?_
      refine SL.gpure (c := 2) rfl rfl rfl rfl rfl rfl rfl (PureOp.load Try.underlying3 rfl rfl (by intro hg; simp [gval] at hg; exact (CellIs.fam 1 rfl k hkl (((nth rs k).n : Int) - 1).toNat 0 (by exact hR.get hkl (by omega))))) ?_
      refine SL.gpure (c := 2) rfl rfl rfl rfl rfl rfl rfl (PureOp.add rfl rfl (by intro hg; simp [gval] at hg; omega)) ?_
      refine SL.gpure (c := 2) rfl rfl rfl rfl rfl rfl rfl (PureOp.slicel Try.underlying22 sz3 rfl rfl (by intro hg; simp [gval] at hg; omega)) ?_
      refine SL.gpure (c := 2) rfl rfl rfl rfl rfl rfl rfl (PureOp.move rfl) ?_
      refine SL.gcalle (c := 2) rfl rfl rfl rfl rfl rfl rfl rfl rfl rfl callable22 (by intro hg; simp [gval] at hg; exact (fun w hw => contains_ok _ _ _ _ (by rw [List.length_take, List.length_drop]; omega) w ((hz.subrows hn (((((nth (gi l l.length) k).1 + (((nth rs k).n : Int) - 1).toNat : Nat) : Int) + 1).toNat) n (by omega) (Nat.le_refl _)).below hw.below) _ (by omega))) ?_
      refine SL.gpure (c := 1) rfl rfl rfl rfl rfl rfl rfl (PureOp.or_ rfl rfl rfl rfl) ?_
      refine SL.pure rfl rfl rfl (PureOp.and_ rfl rfl rfl rfl) ?_
      refine SL.nil_then ?_
      refine WC.cond rfl (fun h4 => ?_) (fun h4 => ?_)
      · try simp only [Bool.and_eq_true, Bool.or_eq_true, Bool.not_eq_true', Bool.not_eq_false', Bool.and_eq_false_iff, Bool.or_eq_false_iff, decide_eq_true_eq, decide_eq_false_iff_not, Int.not_lt, Int.not_le, ne_eq, Decidable.not_not] at h4
        refine WC.seq ?_
        refine WC.region ?_
        refine SL.pure rfl rfl rfl (PureOp.assign rfl) ?_
        refine SL.nil_then ?_
        refine WC.ret ?_
        refine QX.ret_in ?_
        refine QX.ret_then ?_
        refine QX.ret_then ?_
        refine QX.ret_in ?_
        refine QX.ret_then ?_
        refine QX.ret1 rfl rfl ?_
        intro w hw
        have hneg : negs l = false := by
          have e : l.drop k0 = [] := List.drop_eq_nil_of_le (by omega)
          rw [← hI0, e]; rfl
        have hh := h4
        rw [hA, hL, hT] at hh
        have hb : badI l (nth (gi l l.length) k) = true := by
          simp only [badI, Bool.and_eq_true, Bool.or_eq_true, decide_eq_true_eq]
          refine ⟨hh.1, ?_⟩
          rcases hh.2 with q | q
          · left; omega
          · right; exact q
        have e := drop_nth (l := gi l l.length) hkg
        rw [checkF, if_neg (by rw [hneg]; simp), if_pos (by rw [← hI, e]; simp [hb])]
      · try simp only [Bool.and_eq_true, Bool.or_eq_true, Bool.not_eq_true', Bool.not_eq_false', Bool.and_eq_false_iff, Bool.or_eq_false_iff, decide_eq_true_eq, decide_eq_false_iff_not, Int.not_lt, Int.not_le, ne_eq, Decidable.not_not] at h4
        refine WC.skip ?_
        refine QX.normal_in ?_
        refine QX.then_ ?_
        refine WC.region ?_
        refine SL.pure rfl rfl rfl (PureOp.add rfl rfl (fun _ => by omega)) ?_
        refine SL.pure rfl rfl rfl (PureOp.move rfl) ?_
        refine SL.nil ?_
        have hh := h4
        rw [hA, hL, hT] at hh
        have hb : badI l (nth (gi l l.length) k) = false := by
          simp only [badI, Bool.and_eq_false_iff, Bool.or_eq_false_iff, decide_eq_false_iff_not]
          rcases hh with q | ⟨q1, q2⟩
          · left; omega
          · right; exact ⟨by omega, q2⟩
        have e := drop_nth (l := gi l l.length) hkg
        have hI1 : ((gi l l.length).drop (k + 1)).any (badI l) = (gi l l.length).any (badI l) := by rw [← hI, e]; simp [hb]
        refine QX.round 2 (k + 1) ⟨⟨by omega, hI1⟩, by omega⟩ ⟨rfl, rfl, rfl, rfl, rfl, rfl, rfl, rfl, trivial⟩ rfl
    · try simp only [Bool.and_eq_true, Bool.or_eq_true, Bool.not_eq_true', Bool.not_eq_false', Bool.and_eq_false_iff, Bool.or_eq_false_iff, decide_eq_true_eq, decide_eq_false_iff_not, Int.not_lt, Int.not_le, ne_eq, Decidable.not_not] at h3
      refine WC.exit ?_
      refine QX.exit_then ?_
      refine QX.exit_then ?_
      refine QX.exit_hit ?_
      refine QX.then_ ?_
      refine WC.seq ?_
      refine WC.region ?_
      refine SL.pure rfl rfl rfl (PureOp.assign rfl) ?_
      refine SL.nil_then ?_
      refine WC.ret ?_
      refine QX.ret1 rfl rfl ?_
      intro w hw
      have hneg : negs l = false := by
        have e : l.drop k0 = [] := List.drop_eq_nil_of_le (by omega)
        rw [← hI0, e]; rfl
      have e : (gi l l.length).drop k = [] := List.drop_eq_nil_of_le (by rw [← hR.len]; omega)
      rw [checkF, if_neg (by rw [hneg]; simp), if_neg (by rw [← hI, e]; simp)]

end Go.Proofs.Ytdiegelbpdknaaa
