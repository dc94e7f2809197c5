import Derived.Test.YtdiegelbpdknaaaMaG
namespace Go.Proofs.Ytdiegelbpdknaaa
open Go Go.RowKit Eng
set_option linter.unusedVariables false
set_option linter.unusedSimpArgs false

set_option maxHeartbeats 4000000 in
set_option maxRecDepth 100000 in
theorem normal_ok (l : List Int) (ao : Option Addr) (n cap : Nat) (hn : n = l.length) (w0 : World) (hz : SliceIn w0 1 ao n cap (rowsF encI l)) (hnb : n ≤ 1000) : FnC Try.prog 17 [.slice ao n cap] w0 fun v w' => ∃ a c, v = .tuple #[.slice a (normX l).length c, .int .i64 (checkF l)] ∧ w'.ownsRow w0.heap.size 3 1 (.slice a (normX l).length c) (normX l).length (cellsOf encI (normX l)) := by
  refine fnc (N := 51) Try.func17 rfl rfl rfl ?_
  refine WC.seq ?_
  refine WC.region ?_
  refine SL.pure rfl rfl rfl (PureOp.assign rfl) ?_
  refine SL.pure rfl rfl rfl (PureOp.assign rfl) ?_
  refine SL.nil_then ?_
  refine WC.seq ?_
  refine WC.region ?_
  refine SL.pure rfl rfl rfl (PureOp.move rfl) ?_
  refine SL.callg (fun a c rs => .tuple #[.slice a rs.length c, .int .i64 (checkF l)]) (fun rs => Rc l rs) rfl rfl rfl rfl rfl rfl callable8 (fun w hw => Groups_ok l ao n cap hn w (hz.below hw.below) hnb) (fun ga gc rs hRc => ?_)
  refine SL.pure rfl rfl rfl (PureOp.move rfl) ?_
  refine SL.pure rfl rfl rfl (PureOp.extract rfl rfl) ?_
  refine SL.pure rfl rfl rfl (PureOp.extract rfl rfl) ?_
  refine SL.pure rfl rfl rfl (PureOp.assign rfl) ?_
  refine SL.pure rfl rfl rfl (PureOp.assign rfl) ?_
  refine SL.nil_then ?_
  refine WC.seq ?_
  refine WC.seq ?_
  refine WC.region ?_
  refine SL.pure rfl rfl rfl (PureOp.move rfl) ?_
  refine SL.pure rfl rfl rfl (PureOp.neq rfl rfl) ?_
  refine SL.nil_then ?_
  refine WC.cond rfl (fun h1 => ?_) (fun h1 => ?_)
  · try simp only [Bool.and_eq_true, Bool.or_eq_true, Bool.not_eq_true', Bool.not_eq_false', Bool.and_eq_false_iff, Bool.or_eq_false_iff, decide_eq_true_eq, decide_eq_false_iff_not, Int.not_lt, Int.not_le, ne_eq, Decidable.not_not] at h1
    refine WC.seq ?_
    refine WC.region ?_
    refine SL.pure rfl rfl rfl (PureOp.move rfl) ?_
    refine SL.pure rfl rfl rfl (PureOp.assign rfl) ?_
    refine SL.pure rfl rfl rfl (PureOp.assign rfl) ?_
    refine SL.nil_then ?_
    refine WC.ret ?_
    refine QX.ret_then ?_
    refine QX.ret2 rfl rfl rfl ?_
    intro w hw
    have q : ¬ checkF l = 0 := by omega
    have q2 : normX l = [] := by rw [normX, if_neg q]
    rw [q2]
    exact ⟨none, 0, rfl, ownsRow_nil⟩
  · try simp only [Bool.and_eq_true, Bool.or_eq_true, Bool.not_eq_true', Bool.not_eq_false', Bool.and_eq_false_iff, Bool.or_eq_false_iff, decide_eq_true_eq, decide_eq_false_iff_not, Int.not_lt, Int.not_le, ne_eq, Decidable.not_not] at h1
    have hc0 : checkF l = 0 := by omega
    have hR : Rk l l.length rs := by rw [Rc, if_pos hc0] at hRc; exact hRc
    have hRl := hR.len
    have hgl := gi_le l l.length
    refine WC.skip ?_
    refine QX.then_ ?_
    refine WC.seq ?_
    refine WC.region ?_
    refine SL.pure rfl rfl rfl (PureOp.move rfl) ?_
    refine SL.pure rfl rfl rfl (PureOp.len rfl Try.underlying22) ?_
    refine SL.make rfl rfl Try.underlying22 elem3 rfl rfl (by (first | omega | (have q := cellsOf_length encI_len (xk l k ++ List.replicate j ((c + 1 : Nat) : Int) ++ List.replicate (n - (xk l k).length - j) 0); simp at q; simp; omega))) (by (first | omega | (have q := cellsOf_length encI_len (xk l k ++ List.replicate j ((c + 1 : Nat) : Int) ++ List.replicate (n - (xk l k).length - j) 0); simp at q; simp; omega))) (fun b1 hb1 => ?_)
    refine SL.pure rfl rfl rfl (PureOp.assign rfl) ?_
    refine SL.pure rfl rfl rfl (PureOp.assign rfl) ?_
    refine SL.nil_then ?_
    refine WC.seq ?_
    refine WC.seq ?_
    refine WC.region ?_
    refine SL.pure rfl rfl rfl (PureOp.move rfl) ?_
    refine SL.pure rfl rfl rfl (PureOp.len rfl Try.underlying24) ?_
    refine SL.pure rfl rfl rfl (PureOp.move rfl) ?_
    refine SL.nil_then ?_
    refine WC.block ?_
    refine WC.loop (σ := Nat × Nat) (fun s => [(0, 0, .slice ao n cap), (6, 0, .slice (some ⟨b1, 0, none⟩) n n), (7, 0, .int .i64 (s.2 : Nat)), (23, 0, .slice ga rs.length gc), (24, 0, .int .i64 (rs.length : Nat)), (25, 0, .int .i64 (s.1 : Nat))]) (fun s => [.own w0.heap.size ga rs.length gc 22 1 (rs.map FRow.val), .fam w0.heap.size 3 1 rs, .own w0.heap.size (some ⟨b1, 0, none⟩) n n 3 1 (cellsOf encI (xk l s.1 ++ List.replicate (n - (xk l s.1).length) 0))]) (fun s => s.1 ≤ rs.length ∧ s.2 = cn l s.1) (fun s => rs.length - s.1) 3 ((0, 0)) (⟨Nat.zero_le _, rfl⟩) ⟨rfl, rfl, rfl, rfl, rfl, rfl, rfl, rfl, rfl, rfl, rfl, rfl, trivial⟩ (by show [Item.own _ _ _ _ _ _ _, Item.fam _ _ _ _, Item.own _ _ _ _ _ _ _] = [Item.own _ _ _ _ _ _ _, Item.fam _ _ _ _, Item.own _ _ _ _ _ _ _]; rw [cellsOf_encI]; simp [xk, replicate_eq]) ?_
    rintro ⟨k, c⟩ ⟨hk, hcc⟩
    dsimp only at hk hcc ⊢
    refine WC.seq ?_
    refine WC.region ?_
    refine SL.pure rfl rfl rfl (PureOp.lss rfl rfl) ?_
    refine SL.nil_then ?_
    refine WC.seq ?_
    refine WC.cond rfl (fun h2 => ?_) (fun h2 => ?_)
    · try simp only [Bool.and_eq_true, Bool.or_eq_true, Bool.not_eq_true', Bool.not_eq_false', Bool.and_eq_false_iff, Bool.or_eq_false_iff, decide_eq_true_eq, decide_eq_false_iff_not, Int.not_lt, Int.not_le, ne_eq, Decidable.not_not] at h2
      have hkl : k < rs.length := by omega
      have hgl := gi_le l l.length
      have hRl := hR.len
      obtain ⟨hn1, hx1⟩ := hR.at_ hkl
      have hkg : k < (gi l l.length).length := by rw [← hR.len]; exact hkl
      have hle := (gi_inv l l.length).le hkg
      have hm1 := (gi_inv l l.length).m1 k hkg
      have hnn := (check_ok_nonneg hc0).1 (nth (gi l l.length) k).1 (by omega)
      have hxk := xk_len l k hkg
      have hcn := cn_le l k
      refine WC.skip ?_
      refine QX.then_ ?_
      refine WC.seq ?_
      refine WC.block ?_
      refine WC.seq ?_
      refine WC.region ?_
      refine SL.pure rfl rfl rfl (PureOp.indexAddrN Try.underlying24 sz22 rfl rfl (AoOk.own 0 rfl) (fun _ => by (first | omega | (have q := cellsOf_length encI_len (xk l k ++ List.replicate j ((c + 1 : Nat) : Int) ++ List.replicate (n - (xk l k).length - j) 0); simp at q; simp; omega)))) ?_
      refine SL.pure rfl rfl rfl (PureOp.load Try.underlying22 rfl rfl (fun _ => (CellIs.ownc 0 rfl k 0 (by exact vals_get hkl)))) ?_
      refine SL.pure rfl rfl rfl (PureOp.assign rfl) ?_
      refine SL.nil_then ?_
      refine WC.seq ?_
      refine WC.seq ?_
      refine WC.region ?_
      refine SL.pure rfl rfl rfl (PureOp.move rfl) ?_
      refine SL.pure rfl rfl rfl (PureOp.move rfl) ?_
      refine SL.pure rfl rfl rfl (PureOp.indexAddr Try.underlying22 sz3 rfl rfl (AoOk.fam 1 rfl k hkl) (fun _ => by (first | omega | (have q := cellsOf_length encI_len (xk l k ++ List.replicate j ((c + 1 : Nat) : Int) ++ List.replicate (n - (xk l k).length - j) 0); simp at q; simp; omega)))) ?_
      refine SL.pure rfl rfl rfl (PureOp.load Try.underlying3 rfl rfl (fun _ => (CellIs.fam 1 rfl k hkl (0 : Int).toNat 0 (by first | exact hR.get hkl (by omega))))) ?_
      refine SL.pure rfl rfl rfl (PureOp.indexAddr Try.underlying22 sz3 rfl rfl (AoOk.in_ hz) (fun _ => by (first | omega | (have q := cellsOf_length encI_len (xk l k ++ List.replicate j ((c + 1 : Nat) : Int) ++ List.replicate (n - (xk l k).length - j) 0); simp at q; simp; omega)))) ?_
      refine SL.pure rfl rfl rfl (PureOp.load Try.underlying3 rfl rfl (fun _ => (CellIs.in_ hz (((nth (gi l l.length) k).1 + (0 : Int).toNat : Nat) : Int).toNat 0 (by omega) (by omega)))) ?_
      refine SL.pure rfl rfl rfl (PureOp.eql rfl rfl) ?_
      refine SL.nil_then ?_
      refine WC.cond rfl (fun h3 => ?_) (fun h3 => ?_)
      · try simp only [Bool.and_eq_true, Bool.or_eq_true, Bool.not_eq_true', Bool.not_eq_false', Bool.and_eq_false_iff, Bool.or_eq_false_iff, decide_eq_true_eq, decide_eq_false_iff_not, Int.not_lt, Int.not_le, ne_eq, Decidable.not_not] at h3
        refine WC.exit ?_
        refine QX.exit_then ?_
        refine QX.exit_hit ?_
        refine QX.then_ ?_
        refine WC.region ?_
        refine SL.pure rfl rfl rfl (PureOp.add rfl rfl (fun _ => by (first | omega | (have q := cellsOf_length encI_len (xk l k ++ List.replicate j ((c + 1 : Nat) : Int) ++ List.replicate (n - (xk l k).length - j) 0); simp at q; simp; omega)))) ?_
        refine SL.pure rfl rfl rfl (PureOp.move rfl) ?_
        refine SL.nil ?_
        have hp : ¬ 0 < nth l (nth (gi l l.length) k).1 := by have hh := h3; simp at hh; omega
        have h1m := (gi_inv l l.length).one k hkg (by omega)
        refine QX.round (s := (k, c)) (μ := fun s => rs.length - s.1) 3 (k + 1, c) ⟨⟨by show k + 1 ≤ _; omega, by show c = cn l (k + 1); rw [cn, if_neg hp]; exact hcc⟩, by show rs.length - (k + 1) < rs.length - k; omega⟩ ⟨rfl, rfl, rfl, rfl, rfl, rfl, rfl, rfl, rfl, rfl, rfl, rfl, trivial⟩ ?_
        show [Item.own _ _ _ _ _ _ _, Item.fam _ _ _ _, Item.own _ _ _ _ _ _ _] = [Item.own _ _ _ _ _ _ _, Item.fam _ _ _ _, Item.own _ _ _ _ _ _ _]
        rw [xk, if_neg hp, h1m]
        congr 4
        rw [List.length_append, List.append_assoc]
        congr 1
        rw [List.length_replicate, List.replicate_append_replicate]
        rw [show n - (xk l k).length = 1 + (n - ((xk l k).length + 1)) from by omega]
      · try simp only [Bool.and_eq_true, Bool.or_eq_true, Bool.not_eq_true', Bool.not_eq_false', Bool.and_eq_false_iff, Bool.or_eq_false_iff, decide_eq_true_eq, decide_eq_false_iff_not, Int.not_lt, Int.not_le, ne_eq, Decidable.not_not] at h3
        refine WC.skip ?_
        refine QX.then_ ?_
        refine WC.seq ?_
        refine WC.region ?_
        refine SL.pure rfl rfl rfl (PureOp.move rfl) ?_
        refine SL.pure rfl rfl rfl (PureOp.add rfl rfl (fun _ => by (first | omega | (have q := cellsOf_length encI_len (xk l k ++ List.replicate j ((c + 1 : Nat) : Int) ++ List.replicate (n - (xk l k).length - j) 0); simp at q; simp; omega)))) ?_
        refine SL.pure rfl rfl rfl (PureOp.assign rfl) ?_
        refine SL.nil_then ?_
        refine WC.seq ?_
        refine WC.region ?_
        refine SL.pure rfl rfl rfl (PureOp.move rfl) ?_
        refine SL.pure rfl rfl rfl (PureOp.len rfl Try.underlying22) ?_
        refine SL.pure rfl rfl rfl (PureOp.move rfl) ?_
        refine SL.nil_then ?_
        refine WC.block ?_
        refine WC.loop (σ := Nat) (fun s => [(0, 0, .slice ao n cap), (6, 0, .slice (some ⟨b1, 0, none⟩) n n), (7, 0, .int .i64 (c + 1 : Nat)), (23, 0, .slice ga rs.length gc), (24, 0, .int .i64 (rs.length : Nat)), (25, 0, .int .i64 (k : Nat)), (38, 0, .slice (nth rs k).ao (nth rs k).n (nth rs k).cap), (39, 0, .int .i64 ((nth rs k).n : Nat)), (40, 0, .int .i64 (s : Nat))]) (fun s => [.own w0.heap.size ga rs.length gc 22 1 (rs.map FRow.val), .fam w0.heap.size 3 1 rs, .own w0.heap.size (some ⟨b1, 0, none⟩) n n 3 1 (cellsOf encI (xk l k ++ List.replicate s ((c + 1 : Nat) : Int) ++ List.replicate (n - (xk l k).length - s) 0))]) (fun j => j ≤ (nth rs k).n) (fun j => (nth rs k).n - j) 3 (0) (Nat.zero_le _) ⟨rfl, rfl, rfl, rfl, rfl, rfl, rfl, rfl, rfl, rfl, rfl, rfl, rfl, rfl, rfl, rfl, rfl, rfl, trivial⟩ (by simp) ?_
        rintro j hj
        refine WC.seq ?_
        refine WC.region ?_
        refine SL.pure rfl rfl rfl (PureOp.lss rfl rfl) ?_
        refine SL.nil_then ?_
        refine WC.seq ?_
        refine WC.cond rfl (fun h4 => ?_) (fun h4 => ?_)
        · try simp only [Bool.and_eq_true, Bool.or_eq_true, Bool.not_eq_true', Bool.not_eq_false', Bool.and_eq_false_iff, Bool.or_eq_false_iff, decide_eq_true_eq, decide_eq_false_iff_not, Int.not_lt, Int.not_le, ne_eq, Decidable.not_not] at h4
          refine WC.skip ?_
          refine QX.then_ ?_
          refine WC.seq ?_
          refine WC.block ?_
          refine WC.seq ?_
          refine WC.region ?_
          refine SL.pure rfl rfl rfl (PureOp.indexAddrN Try.underlying22 sz3 rfl rfl (AoOk.fam 1 rfl k hkl) (fun _ => by (first | omega | (have q := cellsOf_length encI_len (xk l k ++ List.replicate j ((c + 1 : Nat) : Int) ++ List.replicate (n - (xk l k).length - j) 0); simp at q; simp; omega)))) ?_
          refine SL.pure rfl rfl rfl (PureOp.load Try.underlying3 rfl rfl (fun _ => (CellIs.fam 1 rfl k hkl j 0 (by first | exact hR.get hkl (by omega))))) ?_
          refine SL.pure rfl rfl rfl (PureOp.assign rfl) ?_
          refine SL.nil_then ?_
          refine WC.region ?_
          refine SL.pure rfl rfl rfl (PureOp.move rfl) ?_
          refine SL.pure rfl rfl rfl (PureOp.move rfl) ?_
          refine SL.pure rfl rfl rfl (PureOp.move rfl) ?_
          refine SL.pure rfl rfl rfl (PureOp.indexAddrN Try.underlying22 sz3 rfl rfl (AoOk.own 2 rfl) (fun _ => by (first | omega | (have q := cellsOf_length encI_len (xk l k ++ List.replicate j ((c + 1 : Nat) : Int) ++ List.replicate (n - (xk l k).length - j) 0); simp at q; simp; omega)))) ?_
          refine SL.storeown (k := _) (j := 0) 2 rfl rfl rfl rfl sz3 (by (first | omega | (have q := cellsOf_length encI_len (xk l k ++ List.replicate j ((c + 1 : Nat) : Int) ++ List.replicate (n - (xk l k).length - j) 0); simp at q; simp; omega))) rfl ?_
          refine SL.nil ?_
          refine QX.normal_in ?_
          refine QX.then_ ?_
          refine WC.region ?_
          refine SL.pure rfl rfl rfl (PureOp.add rfl rfl (fun _ => by (first | omega | (have q := cellsOf_length encI_len (xk l k ++ List.replicate j ((c + 1 : Nat) : Int) ++ List.replicate (n - (xk l k).length - j) 0); simp at q; simp; omega)))) ?_
          refine SL.pure rfl rfl rfl (PureOp.move rfl) ?_
          refine SL.nil ?_
          refine QX.round 3 (j + 1) ⟨by omega, by omega⟩ ⟨rfl, rfl, rfl, rfl, rfl, rfl, rfl, rfl, rfl, rfl, rfl, rfl, rfl, rfl, rfl, rfl, rfl, rfl, trivial⟩ ?_
          show [Item.own _ _ _ _ _ _ _, Item.fam _ _ _ _, Item.own _ _ _ _ _ _ _] = [Item.own _ _ _ _ _ _ _, Item.fam _ _ _ _, Item.own _ _ _ _ _ _ _]
          rw [set_cells (by simp; omega), ← hxk, set_fill (by omega)]
          rfl
        · try simp only [Bool.and_eq_true, Bool.or_eq_true, Bool.not_eq_true', Bool.not_eq_false', Bool.and_eq_false_iff, Bool.or_eq_false_iff, decide_eq_true_eq, decide_eq_false_iff_not, Int.not_lt, Int.not_le, ne_eq, Decidable.not_not] at h4
          refine WC.exit ?_
          refine QX.exit_then ?_
          refine QX.exit_then ?_
          refine QX.exit_hit ?_
          refine QX.normal_in ?_
          refine QX.then_ ?_
          refine WC.region ?_
          refine SL.pure rfl rfl rfl (PureOp.add rfl rfl (fun _ => by (first | omega | (have q := cellsOf_length encI_len (xk l k ++ List.replicate j ((c + 1 : Nat) : Int) ++ List.replicate (n - (xk l k).length - j) 0); simp at q; simp; omega)))) ?_
          refine SL.pure rfl rfl rfl (PureOp.move rfl) ?_
          refine SL.nil ?_
          have hp : 0 < nth l (nth (gi l l.length) k).1 := by have hh := h3; simp at hh; omega
          obtain rfl : j = (nth (gi l l.length) k).2 := by omega
          refine QX.round (s := (k, c)) (μ := fun s => rs.length - s.1) 3 (k + 1, c + 1) ⟨⟨by show k + 1 ≤ _; omega, by show c + 1 = cn l (k + 1); rw [cn, if_pos hp, hcc]⟩, by show rs.length - (k + 1) < rs.length - k; omega⟩ ⟨rfl, rfl, rfl, rfl, rfl, rfl, rfl, rfl, rfl, rfl, rfl, rfl, trivial⟩ ?_
          show [Item.own _ _ _ _ _ _ _, Item.fam _ _ _ _, Item.own _ _ _ _ _ _ _] = [Item.own _ _ _ _ _ _ _, Item.fam _ _ _ _, Item.own _ _ _ _ _ _ _]
          rw [xk, if_pos hp, ← hcc, List.length_append, List.length_replicate, Nat.sub_add_eq]
    · try simp only [Bool.and_eq_true, Bool.or_eq_true, Bool.not_eq_true', Bool.not_eq_false', Bool.and_eq_false_iff, Bool.or_eq_false_iff, decide_eq_true_eq, decide_eq_false_iff_not, Int.not_lt, Int.not_le, ne_eq, Decidable.not_not] at h2
      refine WC.exit ?_
      refine QX.exit_then ?_
      refine QX.exit_then ?_
      refine QX.exit_hit ?_
      refine QX.then_ ?_
      refine WC.seq ?_
      refine WC.region ?_
      refine SL.pure rfl rfl rfl (PureOp.move rfl) ?_
      refine SL.pure rfl rfl rfl (PureOp.assign rfl) ?_
      refine SL.pure rfl rfl rfl (PureOp.assign rfl) ?_
      refine SL.nil_then ?_
      refine WC.ret ?_
      refine QX.ret2 rfl rfl rfl ?_
      intro w hw
      obtain rfl : k = rs.length := by omega
      have q2 : normX l = xk l rs.length := by rw [normX, if_pos hc0, hRl]
      have q3 : (xk l rs.length).length = n := by rw [hRl, xk_all]; exact hn.symm
      have h := hw.mem (i := 2) rfl
      rw [q3, Nat.sub_self, List.replicate_zero, List.append_nil] at h
      rw [q2, hc0, q3]
      exact ⟨_, _, rfl, h⟩

end Go.Proofs.Ytdiegelbpdknaaa
