import Derived.Test.YtdiegelbpdknaaaMaF
namespace Go.Proofs.Ytdiegelbpdknaaa
open Go Go.RowKit Eng
set_option linter.unusedVariables false
set_option linter.unusedSimpArgs false

set_option maxHeartbeats 4000000 in
set_option maxRecDepth 100000 in
theorem part_ok (l : List Int) (ao : Option Addr) (n cap : Nat) (hn : n = l.length) (w0 : World) (hz : SliceIn w0 1 ao n cap (rowsF encI l)) (x : Int) (hnb : n ≤ 1000) : FnC Try.prog 15 [.slice ao n cap, .int .i64 x] w0 fun v w' => ∃ a c, v = .tuple #[.slice a (partX l x).length c, .int .i64 (withE l x)] ∧ w'.ownsRow w0.heap.size 3 1 (.slice a (partX l x).length c) (partX l x).length (cellsOf encI (partX l x)) := by
  refine fnc (N := 33) Try.func15 rfl rfl rfl ?_
  refine WC.seq ?_
  refine WC.region ?_
  refine SL.pure rfl rfl rfl (PureOp.assign rfl) ?_
  refine SL.pure rfl rfl rfl (PureOp.assign rfl) ?_
  refine SL.nil_then ?_
  refine WC.seq ?_
  refine WC.region ?_
  refine SL.pure rfl rfl rfl (PureOp.move rfl) ?_
  refine SL.pure rfl rfl rfl (PureOp.move rfl) ?_
  refine SL.callo (fun a c => .tuple #[.slice a (withX l x).length c, .int .i64 (withE l x)]) rfl rfl rfl rfl rfl rfl callable13 (fun w hw => with_ok l ao n cap hn w (hz.below hw.below) x hnb) (fun wa wc => ?_)
  refine SL.pure rfl rfl rfl (PureOp.move rfl) ?_
  refine SL.pure rfl rfl rfl (PureOp.extract rfl rfl) ?_
  refine SL.pure rfl rfl rfl (PureOp.extract rfl rfl) ?_
  refine SL.pure rfl rfl rfl (PureOp.assign rfl) ?_
  refine SL.pure rfl rfl rfl (PureOp.assign rfl) ?_
  refine SL.nil_then ?_
  refine WC.seq ?_
  refine WC.seq ?_
  refine WC.region ?_
  refine SL.pure rfl rfl rfl (PureOp.move rfl) ?_
  refine SL.pure rfl rfl rfl (PureOp.neq rfl rfl) ?_
  refine SL.nil_then ?_
  refine WC.cond rfl (fun h1 => ?_) (fun h1 => ?_)
  · try simp only [Bool.and_eq_true, Bool.or_eq_true, Bool.not_eq_true', Bool.not_eq_false', Bool.and_eq_false_iff, Bool.or_eq_false_iff, decide_eq_true_eq, decide_eq_false_iff_not, Int.not_lt, Int.not_le, ne_eq, Decidable.not_not] at h1
    refine WC.seq ?_
    refine WC.region ?_
    refine SL.pure rfl rfl rfl (PureOp.move rfl) ?_
    refine SL.pure rfl rfl rfl (PureOp.assign rfl) ?_
    refine SL.pure rfl rfl rfl (PureOp.assign rfl) ?_
    refine SL.nil_then ?_
    refine WC.ret ?_
    refine QX.ret_then ?_
    refine QX.ret2 rfl rfl rfl ?_
    intro w hw
    have q : withE l x ≠ 0 := by omega
    rw [partX_bad q]
    exact ⟨none, 0, rfl, ownsRow_nil⟩
  · try simp only [Bool.and_eq_true, Bool.or_eq_true, Bool.not_eq_true', Bool.not_eq_false', Bool.and_eq_false_iff, Bool.or_eq_false_iff, decide_eq_true_eq, decide_eq_false_iff_not, Int.not_lt, Int.not_le, ne_eq, Decidable.not_not] at h1
    refine WC.skip ?_
    refine QX.then_ ?_
    refine WC.seq ?_
    refine WC.region ?_
    refine SL.pure rfl rfl rfl (PureOp.move rfl) ?_
    refine SL.callo (fun a c => .slice a l.length c) rfl rfl rfl rfl rfl rfl callable24 (fun w hw => clone_ok l ao n cap hn w (hz.below hw.below) hnb) (fun ka kc => ?_)
    refine SL.pure rfl rfl rfl (PureOp.assign rfl) ?_
    refine SL.nil_then ?_
    refine WC.seq ?_
    refine WC.seq ?_
    refine WC.region ?_
    refine SL.pure rfl rfl rfl (PureOp.move rfl) ?_
    refine SL.pure rfl rfl rfl (PureOp.len rfl Try.underlying22) ?_
    refine SL.pure rfl rfl rfl (PureOp.move rfl) ?_
    refine SL.nil_then ?_
    refine WC.block ?_
    refine WC.loop (σ := Nat × List Int) (fun s => [(8, 0, .slice ka l.length kc), (22, 0, .slice wa (withX l x).length wc), (23, 0, .int .i64 ((withX l x).length : Nat)), (24, 0, .int .i64 (s.1 : Nat))]) (fun s => [.own w0.heap.size wa (withX l x).length wc 3 1 (cellsOf encI (withX l x)), .own w0.heap.size ka l.length kc 3 1 (cellsOf encI s.2)]) (fun s => s.1 ≤ (withX l x).length ∧ s.2.length = n ∧ zs s.2 ((withX l x).drop s.1) = zs l (withX l x)) (fun s => (withX l x).length - s.1) 2 ((0, l)) (⟨Nat.zero_le _, hn.symm, rfl⟩) ⟨rfl, rfl, rfl, rfl, rfl, rfl, rfl, rfl, trivial⟩ rfl ?_
    rintro ⟨k, cur⟩ ⟨hk, hcl, hI⟩
    dsimp only at hk hcl hI ⊢
    refine WC.seq ?_
    refine WC.region ?_
    refine SL.pure rfl rfl rfl (PureOp.lss rfl rfl) ?_
    refine SL.nil_then ?_
    refine WC.seq ?_
    refine WC.cond rfl (fun h2 => ?_) (fun h2 => ?_)
    · try simp only [Bool.and_eq_true, Bool.or_eq_true, Bool.not_eq_true', Bool.not_eq_false', Bool.and_eq_false_iff, Bool.or_eq_false_iff, decide_eq_true_eq, decide_eq_false_iff_not, Int.not_lt, Int.not_le, ne_eq, Decidable.not_not] at h2
      have hkl : k < (withX l x).length := by omega
      have hmm := withX_mem (nth_mem hkl)
      have hxl := withX_le l x
      refine WC.skip ?_
      refine QX.then_ ?_
      refine WC.seq ?_
      refine WC.block ?_
      refine WC.seq ?_
      refine WC.region ?_
      refine SL.pure rfl rfl rfl (PureOp.indexAddrN Try.underlying22 sz3 rfl rfl (AoOk.own 0 rfl) (fun _ => by (first | omega | (have hxl := withX_le l x; first | omega | (have q := cellsOf_length encI_len cur; omega))))) ?_
      refine SL.pure rfl rfl rfl (PureOp.load Try.underlying3 rfl rfl (fun _ => (CellIs.ownc 0 rfl k 0 (by exact cellsOf_get encI_len (withX l x) k 0 hkl (by omega))))) ?_
      refine SL.pure rfl rfl rfl (PureOp.assign rfl) ?_
      refine SL.nil_then ?_
      refine WC.region ?_
      refine SL.pure rfl rfl rfl (PureOp.move rfl) ?_
      refine SL.pure rfl rfl rfl (PureOp.move rfl) ?_
      refine SL.pure rfl rfl rfl (PureOp.indexAddr Try.underlying22 sz3 rfl rfl (AoOk.own 1 rfl) (fun _ => by (first | omega | (have hxl := withX_le l x; first | omega | (have q := cellsOf_length encI_len cur; omega))))) ?_
      refine SL.storeown (k := (nth (withX l x) k).toNat) (j := 0) 1 rfl rfl rfl rfl sz3 (by (first | omega | (have hxl := withX_le l x; first | omega | (have q := cellsOf_length encI_len cur; omega)))) rfl ?_
      refine SL.nil ?_
      refine QX.normal_in ?_
      refine QX.then_ ?_
      refine WC.region ?_
      refine SL.pure rfl rfl rfl (PureOp.add rfl rfl (fun _ => by (first | omega | (have hxl := withX_le l x; first | omega | (have q := cellsOf_length encI_len cur; omega))))) ?_
      refine SL.pure rfl rfl rfl (PureOp.move rfl) ?_
      refine SL.nil ?_
      have e := drop_nth (l := withX l x) (i := k) hkl
      refine QX.round (s := (k, cur)) (μ := fun s => (withX l x).length - s.1) 2 (k + 1, cur.set (nth (withX l x) k).toNat 0) ⟨⟨by show k + 1 ≤ _; omega, by show (cur.set _ _).length = n; rw [List.length_set]; exact hcl, ?_⟩, by show (withX l x).length - (k + 1) < (withX l x).length - k; omega⟩ ⟨rfl, rfl, rfl, rfl, rfl, rfl, rfl, rfl, trivial⟩ ?_
      · rw [← hI, e]; rfl
      · show [Item.own _ _ _ _ _ _ _, Item.own _ _ _ _ _ _ _] = [Item.own _ _ _ _ _ _ _, Item.own _ _ _ _ _ _ _]
        rw [set_cells (by omega)]
    · try simp only [Bool.and_eq_true, Bool.or_eq_true, Bool.not_eq_true', Bool.not_eq_false', Bool.and_eq_false_iff, Bool.or_eq_false_iff, decide_eq_true_eq, decide_eq_false_iff_not, Int.not_lt, Int.not_le, ne_eq, Decidable.not_not] at h2
      refine WC.exit ?_
      refine QX.exit_then ?_
      refine QX.exit_then ?_
      refine QX.exit_hit ?_
      refine QX.then_ ?_
      refine WC.seq ?_
      refine WC.region ?_
      refine SL.pure rfl rfl rfl (PureOp.move rfl) ?_
      refine SL.pure rfl rfl rfl (PureOp.assign rfl) ?_
      refine SL.pure rfl rfl rfl (PureOp.assign rfl) ?_
      refine SL.nil_then ?_
      refine WC.ret ?_
      refine QX.ret2 rfl rfl rfl ?_
      intro w hw
      have e : (withX l x).drop k = [] := List.drop_eq_nil_of_le (by omega)
      have q : withE l x = 0 := by omega
      have hp : partX l x = cur := by rw [partX, if_pos q, ← hI, e]; rfl
      rw [hp, q]
      rw [hcl, hn]
      exact ⟨ka, kc, rfl, hw.mem (i := 1) rfl⟩

set_option maxHeartbeats 4000000 in
set_option maxRecDepth 100000 in
theorem rpart_ok (l : List Int) (ao : Option Addr) (n cap : Nat) (hn : n = l.length) (w0 : World) (hz : SliceIn w0 1 ao n cap (rowsF encI l)) (x : Int) (hnb : n ≤ 1000) : FnC Try.prog 16 [.slice ao n cap, .int .i64 x] w0 fun v w' => ∃ a c, v = .tuple #[.slice a (partX l x).length c, .int .i64 (withE l x)] ∧ w'.ownsRow w0.heap.size 3 1 (.slice a (partX l x).length c) (partX l x).length (cellsOf encI (partX l x)) := by
  refine fnc (N := 35) Try.func16 rfl rfl rfl ?_
  refine WC.seq ?_
  refine WC.region ?_
  refine SL.pure rfl rfl rfl (PureOp.assign rfl) ?_
  refine SL.pure rfl rfl rfl (PureOp.assign rfl) ?_
  refine SL.nil_then ?_
  refine WC.seq ?_
  refine WC.region ?_
  refine SL.pure rfl rfl rfl (PureOp.move rfl) ?_
  refine SL.pure rfl rfl rfl (PureOp.move rfl) ?_
  refine SL.callo (fun a c => .tuple #[.slice a (withX l x).length c, .int .i64 (withE l x)]) rfl rfl rfl rfl rfl rfl callable14 (fun w hw => rwith_ok l ao n cap hn w (hz.below hw.below) x hnb) (fun wa wc => ?_)
  refine SL.pure rfl rfl rfl (PureOp.move rfl) ?_
  refine SL.pure rfl rfl rfl (PureOp.extract rfl rfl) ?_
  refine SL.pure rfl rfl rfl (PureOp.extract rfl rfl) ?_
  refine SL.pure rfl rfl rfl (PureOp.assign rfl) ?_
  refine SL.pure rfl rfl rfl (PureOp.assign rfl) ?_
  refine SL.nil_then ?_
  refine WC.seq ?_
  refine WC.seq ?_
  refine WC.region ?_
  refine SL.pure rfl rfl rfl (PureOp.move rfl) ?_
  refine SL.pure rfl rfl rfl (PureOp.neq rfl rfl) ?_
  refine SL.nil_then ?_
  refine WC.cond rfl (fun h1 => ?_) (fun h1 => ?_)
  · try simp only [Bool.and_eq_true, Bool.or_eq_true, Bool.not_eq_true', Bool.not_eq_false', Bool.and_eq_false_iff, Bool.or_eq_false_iff, decide_eq_true_eq, decide_eq_false_iff_not, Int.not_lt, Int.not_le, ne_eq, Decidable.not_not] at h1
    refine WC.seq ?_
    refine WC.region ?_
    refine SL.pure rfl rfl rfl (PureOp.move rfl) ?_
    refine SL.pure rfl rfl rfl (PureOp.assign rfl) ?_
    refine SL.pure rfl rfl rfl (PureOp.assign rfl) ?_
    refine SL.nil_then ?_
    refine WC.ret ?_
    refine QX.ret_then ?_
    refine QX.ret2 rfl rfl rfl ?_
    intro w hw
    have q : withE l x ≠ 0 := by omega
    rw [partX_bad q]
    exact ⟨none, 0, rfl, ownsRow_nil⟩
  · try simp only [Bool.and_eq_true, Bool.or_eq_true, Bool.not_eq_true', Bool.not_eq_false', Bool.and_eq_false_iff, Bool.or_eq_false_iff, decide_eq_true_eq, decide_eq_false_iff_not, Int.not_lt, Int.not_le, ne_eq, Decidable.not_not] at h1
    refine WC.skip ?_
    refine QX.then_ ?_
    refine WC.seq ?_
    refine WC.region ?_
    refine SL.buildSlice0 rfl rfl Try.underlying22 elem3 (fun b1 hb1 => ?_)
    refine SL.pure rfl rfl rfl (PureOp.move rfl) ?_
    refine SL.append 1 rfl rfl Try.underlying22 elem3 rfl rfl rfl rfl (SrcIs.in_ hz encI_len hn) (by exact all_one_cells (fun x => rfl) l) (by (first | omega | (have hxl := withX_le l x; first | omega | (have q := cellsOf_length encI_len cur; omega)))) (by (first | omega | (have hxl := withX_le l x; first | omega | (have q := cellsOf_length encI_len cur; omega)))) (fun ao1_ cap1_ => ?_)
    refine SL.pure rfl rfl rfl (PureOp.assign rfl) ?_
    refine SL.nil_then ?_
    refine WC.seq ?_
    refine WC.seq ?_
    refine WC.region ?_
    refine SL.pure rfl rfl rfl (PureOp.assign rfl) ?_
    refine SL.nil_then ?_
    refine WC.block ?_
    refine WC.loop (σ := Nat × List Int) (fun s => [(6, 0, .slice wa (withX l x).length wc), (8, 0, .slice ao1_ (0 + n) cap1_), (9, 0, .int .i64 (s.1 : Nat))]) (fun s => [.own w0.heap.size wa (withX l x).length wc 3 1 (cellsOf encI (withX l x)), .own w0.heap.size ao1_ (0 + n) cap1_ 3 1 (cellsOf encI s.2)]) (fun s => s.1 ≤ (withX l x).length ∧ s.2.length = n ∧ zs s.2 ((withX l x).drop s.1) = zs l (withX l x)) (fun s => (withX l x).length - s.1) 2 ((0, l)) (⟨Nat.zero_le _, hn.symm, rfl⟩) ⟨rfl, rfl, rfl, rfl, rfl, rfl, trivial⟩ rfl ?_
    rintro ⟨k, cur⟩ ⟨hk, hcl, hI⟩
    dsimp only at hk hcl hI ⊢
    refine WC.seq ?_
    refine WC.seq ?_
    refine WC.region ?_
    refine SL.pure rfl rfl rfl (PureOp.move rfl) ?_
    refine SL.pure rfl rfl rfl (PureOp.move rfl) ?_
    refine SL.pure rfl rfl rfl (PureOp.len rfl Try.underlying22) ?_
    refine SL.pure rfl rfl rfl (PureOp.lss rfl rfl) ?_
    refine SL.nil_then ?_
    refine WC.cond rfl (fun h2 => ?_) (fun h2 => ?_)
    · try simp only [Bool.and_eq_true, Bool.or_eq_true, Bool.not_eq_true', Bool.not_eq_false', Bool.and_eq_false_iff, Bool.or_eq_false_iff, decide_eq_true_eq, decide_eq_false_iff_not, Int.not_lt, Int.not_le, ne_eq, Decidable.not_not] at h2
      have hkl : k < (withX l x).length := by omega
      have hmm := withX_mem (nth_mem hkl)
      have hxl := withX_le l x
      refine WC.skip ?_
      refine QX.then_ ?_
      refine WC.seq ?_
      refine WC.block ?_
      refine WC.region ?_
      refine SL.pure rfl rfl rfl (PureOp.move rfl) ?_
      refine SL.pure rfl rfl rfl (PureOp.move rfl) ?_
      refine SL.pure rfl rfl rfl (PureOp.move rfl) ?_
      refine SL.pure rfl rfl rfl (PureOp.indexAddrN Try.underlying22 sz3 rfl rfl (AoOk.own 0 rfl) (fun _ => by (first | omega | (have hxl := withX_le l x; first | omega | (have q := cellsOf_length encI_len cur; omega))))) ?_
      refine SL.pure rfl rfl rfl (PureOp.load Try.underlying3 rfl rfl (fun _ => (CellIs.ownc 0 rfl k 0 (by exact cellsOf_get encI_len (withX l x) k 0 hkl (by omega))))) ?_
      refine SL.pure rfl rfl rfl (PureOp.indexAddr Try.underlying22 sz3 rfl rfl (AoOk.own 1 rfl) (fun _ => by (first | omega | (have hxl := withX_le l x; first | omega | (have q := cellsOf_length encI_len cur; omega))))) ?_
      refine SL.storeown (k := (nth (withX l x) k).toNat) (j := 0) 1 rfl rfl rfl rfl sz3 (by (first | omega | (have hxl := withX_le l x; first | omega | (have q := cellsOf_length encI_len cur; omega)))) rfl ?_
      refine SL.nil ?_
      refine QX.normal_in ?_
      refine QX.then_ ?_
      refine WC.region ?_
      refine SL.pure rfl rfl rfl (PureOp.move rfl) ?_
      refine SL.pure rfl rfl rfl (PureOp.add rfl rfl (fun _ => by (first | omega | (have hxl := withX_le l x; first | omega | (have q := cellsOf_length encI_len cur; omega))))) ?_
      refine SL.pure rfl rfl rfl (PureOp.assign rfl) ?_
      refine SL.nil ?_
      have e := drop_nth (l := withX l x) (i := k) hkl
      refine QX.round (s := (k, cur)) (μ := fun s => (withX l x).length - s.1) 2 (k + 1, cur.set (nth (withX l x) k).toNat 0) ⟨⟨by show k + 1 ≤ _; omega, by show (cur.set _ _).length = n; rw [List.length_set]; exact hcl, ?_⟩, by show (withX l x).length - (k + 1) < (withX l x).length - k; omega⟩ ⟨rfl, rfl, rfl, rfl, rfl, rfl, trivial⟩ ?_
      · rw [← hI, e]; rfl
      · show [Item.own _ _ _ _ _ _ _, Item.own _ _ _ _ _ _ _] = [Item.own _ _ _ _ _ _ _, Item.own _ _ _ _ _ _ _]
        rw [set_cells (by omega)]
    · try simp only [Bool.and_eq_true, Bool.or_eq_true, Bool.not_eq_true', Bool.not_eq_false', Bool.and_eq_false_iff, Bool.or_eq_false_iff, decide_eq_true_eq, decide_eq_false_iff_not, Int.not_lt, Int.not_le, ne_eq, Decidable.not_not] at h2
      refine WC.exit ?_
      refine QX.exit_then ?_
      refine QX.exit_then ?_
      refine QX.exit_hit ?_
      refine QX.then_ ?_
      refine WC.seq ?_
      refine WC.region ?_
      refine SL.pure rfl rfl rfl (PureOp.move rfl) ?_
      refine SL.pure rfl rfl rfl (PureOp.assign rfl) ?_
      refine SL.pure rfl rfl rfl (PureOp.assign rfl) ?_
      refine SL.nil_then ?_
      refine WC.ret ?_
      refine QX.ret2 rfl rfl rfl ?_
      intro w hw
      have e : (withX l x).drop k = [] := List.drop_eq_nil_of_le (by omega)
      have q : withE l x = 0 := by omega
      have hp : partX l x = cur := by rw [partX, if_pos q, ← hI, e]; rfl
      rw [hp, q]
      have h := hw.mem (i := 1) rfl
      rw [Nat.zero_add] at h ⊢
      rw [hcl]
      exact ⟨_, _, rfl, h⟩

end Go.Proofs.Ytdiegelbpdknaaa
