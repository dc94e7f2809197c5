import Derived.Test.YtngkbnaehkailaaRsC
namespace Go.Proofs.Ytngkbnaehkailaa
open Go Go.RowKit Eng
set_option linter.unusedVariables false
set_option linter.unusedSimpArgs false

def exL (b : Nat) : List Pa := [(2, 1, ⟨some ⟨b, 0, none⟩, 2, [(0, 60), (1, 300)]⟩), (1, 5, ⟨some ⟨b, 0, none⟩, 2, [(0, 60), (1, 300)]⟩)]
def exP (b d x : Nat) : List (SliceV Int) := [⟨some ⟨b, 0, none⟩, 2, [2, 0]⟩, ⟨some ⟨d, 0, none⟩, 2, [x, 1 - (x : Int)]⟩]
abbrev exE : List Ed := [(0, 1, 2, 0), (0, 2, 1, 0), (3, 5, 2, 0), (4, 5, 1, 0), (1, 3, 2, 60), (1, 4, 2, 300), (2, 3, 1, 300), (2, 4, 1, 1500)]
theorem ex_ed (b : Nat) : edO 2 2 (exL b) [2, 1] 2 = exE := rfl
theorem ex_slv : slv exE 6 0 5 3 5 (List.replicate 8 0) 0 0 = some ([2, 1, 2, 1, 1, 1, 1, 0], 3, 660) := by kernel_rfl
theorem ex_chk (b : Nat) : rchk (exL b) [2, 1] = 0 := by kernel_rfl
theorem ex_val (b d e : Nat) : rval (exL b) [2, 1] (exP d e 0) = (3, 1620, 0) := by kernel_rfl
theorem ex_val2 (b d e : Nat) : rval (exL b) [2, 1] (exP d e 1) = (0, 0, 9) := by kernel_rfl
theorem both1 {w0 w : World} {H : Heap} (h : HeapOk w0 H w) (i : Nat) {base n cap sz : Nat} {ao : Option Addr} {t : TypeId} {xs : List Value} {y : Eng.Item} (hi : H[i]? = some (Item.both (.own base ao n cap t sz xs) y)) : w.ownsRow base t sz (.slice ao n cap) n xs := (h.mem hi).1
theorem both2 {w0 w : World} {H : Heap} (h : HeapOk w0 H w) (i : Nat) {base n cap sz : Nat} {ao : Option Addr} {t : TypeId} {xs : List Value} {y : Eng.Item} (hi : H[i]? = some (Item.both y (.own base ao n cap t sz xs))) : w.ownsRow base t sz (.slice ao n cap) n xs := (h.mem hi).2
theorem two_cases {p : Nat → Prop} (h0 : p 0) (h1 : p 1) : ∀ i, i < 2 → p i
  | 0, _ => h0
  | 1, _ => h1
set_option maxHeartbeats 4000000 in
set_option maxRecDepth 100000 in
theorem same52_ok (x y : List Int) (a1 a2 : Option Addr) (n1 n2 c1 c2 : Nat) (hn1 : n1 = x.length) (hn2 : n2 = y.length) (w0 : World) (hz1 : SliceIn w0 1 a1 n1 c1 (rowsF encI x)) (hz2 : SliceIn w0 1 a2 n2 c2 (rowsF encI y)) (hnb : n1 ≤ 100000) : FnC Try.prog 34 [.slice a1 n1 c1, .slice a2 n2 c2] w0 fun v w' => v = .bool (decide (x = y)) := by
  refine fnc (N := 26) Try.func34 rfl rfl rfl ?_
  refine WC.seq ?_
  refine WC.region ?_
  refine SL.pure rfl rfl rfl (PureOp.assign rfl) ?_
  refine SL.nil_then ?_
  refine WC.seq ?_
  refine WC.seq ?_
  refine WC.region ?_
  refine SL.pure rfl rfl rfl (PureOp.move rfl) ?_
  refine SL.pure rfl rfl rfl (PureOp.len rfl Try.underlying29) ?_
  refine SL.pure rfl rfl rfl (PureOp.move rfl) ?_
  refine SL.pure rfl rfl rfl (PureOp.len rfl Try.underlying29) ?_
  refine SL.pure rfl rfl rfl (PureOp.neq rfl rfl) ?_
  refine SL.nil_then ?_
  refine WC.cond rfl (fun h1 => ?_) (fun h1 => ?_)
  · try simp only [Bool.and_eq_true, Bool.or_eq_true, Bool.not_eq_true', Bool.not_eq_false', Bool.and_eq_false_iff, Bool.or_eq_false_iff, decide_eq_true_eq, decide_eq_false_iff_not, Int.not_lt, Int.not_le, ne_eq, Decidable.not_not] at h1
    refine WC.seq ?_
    refine WC.region ?_
    refine SL.pure rfl rfl rfl (PureOp.assign rfl) ?_
    refine SL.nil_then ?_
    refine WC.ret ?_
    refine QX.ret_then ?_
    refine QX.ret1 rfl rfl ?_
    intro w hw
    refine congrArg Value.bool ?_
    rw [eq_comm, decide_eq_false_iff_not]
    rintro rfl
    omega
  · try simp only [Bool.and_eq_true, Bool.or_eq_true, Bool.not_eq_true', Bool.not_eq_false', Bool.and_eq_false_iff, Bool.or_eq_false_iff, decide_eq_true_eq, decide_eq_false_iff_not, Int.not_lt, Int.not_le, ne_eq, Decidable.not_not] at h1
    refine WC.skip ?_
    refine QX.then_ ?_
    refine WC.seq ?_
    refine WC.seq ?_
    refine WC.region ?_
    refine SL.pure rfl rfl rfl (PureOp.assign rfl) ?_
    refine SL.nil_then ?_
    refine WC.block ?_
    refine WC.loop (σ := Nat) (fun q_ => [(0, 0, .slice a1 n1 c1), (1, 0, .slice a2 n2 c2), (6, 0, .slice a1 n1 c1), (7, 0, .int .i64 ((n1 : Nat) : Int)), (8, 0, .slice a2 n2 c2), (9, 0, .int .i64 ((n2 : Nat) : Int)), (10, 0, .bool (decide (((n1 : Nat) : Int) ≠ ((n2 : Nat) : Int)))), (5, 0, .int .i64 ((q_ : Nat) : Int))]) (fun q_ => []) (fun q_ => q_ ≤ n1 ∧ ∀ j, j < q_ → nth x j = nth y j) (fun q_ => n1 - q_) 0 (0) (⟨Nat.zero_le _, fun _ h => absurd h (Nat.not_lt_zero _)⟩) ⟨rfl, rfl, rfl, rfl, rfl, rfl, rfl, rfl, rfl, rfl, rfl, rfl, rfl, rfl, rfl, rfl, trivial⟩ rfl ?_
    rintro k ⟨hk, ha⟩
    refine WC.seq ?_
    refine WC.seq ?_
    refine WC.region ?_
    refine SL.pure rfl rfl rfl (PureOp.move rfl) ?_
    refine SL.pure rfl rfl rfl (PureOp.move rfl) ?_
    refine SL.pure rfl rfl rfl (PureOp.len rfl Try.underlying29) ?_
    refine SL.pure rfl rfl rfl (PureOp.lss rfl rfl) ?_
    refine SL.nil_then ?_
    refine WC.cond rfl (fun h2 => ?_) (fun h2 => ?_)
    · try simp only [Bool.and_eq_true, Bool.or_eq_true, Bool.not_eq_true', Bool.not_eq_false', Bool.and_eq_false_iff, Bool.or_eq_false_iff, decide_eq_true_eq, decide_eq_false_iff_not, Int.not_lt, Int.not_le, ne_eq, Decidable.not_not] at h2
      refine WC.skip ?_
      refine QX.then_ ?_
      refine WC.seq ?_
      refine WC.block ?_
      refine WC.seq ?_
      refine WC.quiet rfl (by kernel_rfl) ?_
      refine SQ.pure rfl rfl rfl (PureOp.move rfl) ?_
      refine SQ.pure rfl rfl rfl (PureOp.move rfl) ?_
      refine SQ.pure rfl rfl rfl (PureOp.indexAddrN Try.underlying29 sz3 rfl rfl (AoOk.in_ hz1) (fun _ => by omega)) ?_
      refine SQ.pure rfl rfl rfl (PureOp.load (v := .int .i64 (nth x k)) Try.underlying3 rfl rfl (fun _ => (CellIs.in_ hz1 k 0 (by omega) (by omega)))) ?_
      refine SQ.pure rfl rfl rfl (PureOp.move rfl) ?_
      refine SQ.pure rfl rfl rfl (PureOp.move rfl) ?_
      refine SQ.pure rfl rfl rfl (PureOp.indexAddrN Try.underlying29 sz3 rfl rfl (AoOk.in_ hz2) (fun _ => by omega)) ?_
      refine SQ.pure rfl rfl rfl (PureOp.load (v := .int .i64 (nth y k)) Try.underlying3 rfl rfl (fun _ => (CellIs.in_ hz2 k 0 (by omega) (by omega)))) ?_
      refine SQ.pure rfl rfl rfl (PureOp.neq rfl rfl) ?_
      refine SQ.nil_then ?_
      refine WC.cond rfl (fun h3 => ?_) (fun h3 => ?_)
      · try simp only [Bool.and_eq_true, Bool.or_eq_true, Bool.not_eq_true', Bool.not_eq_false', Bool.and_eq_false_iff, Bool.or_eq_false_iff, decide_eq_true_eq, decide_eq_false_iff_not, Int.not_lt, Int.not_le, ne_eq, Decidable.not_not] at h3
        refine WC.seq ?_
        refine WC.region ?_
        refine SL.pure rfl rfl rfl (PureOp.assign rfl) ?_
        refine SL.nil_then ?_
        refine WC.ret ?_
        refine QX.ret_in ?_
        refine QX.ret_then ?_
        refine QX.ret_then ?_
        refine QX.ret_in ?_
        refine QX.ret_then ?_
        refine QX.ret1 rfl rfl ?_
        intro w hw
        refine congrArg Value.bool ?_
        rw [eq_comm, decide_eq_false_iff_not]
        rintro rfl
        exact h3 rfl
      · try simp only [Bool.and_eq_true, Bool.or_eq_true, Bool.not_eq_true', Bool.not_eq_false', Bool.and_eq_false_iff, Bool.or_eq_false_iff, decide_eq_true_eq, decide_eq_false_iff_not, Int.not_lt, Int.not_le, ne_eq, Decidable.not_not] at h3
        refine WC.skip ?_
        refine QX.normal_in ?_
        refine QX.then_ ?_
        refine WC.region ?_
        refine SL.pure rfl rfl rfl (PureOp.move rfl) ?_
        refine SL.pure rfl rfl rfl (PureOp.addN (k := 1) rfl rfl (fun _ => by omega)) ?_
        refine SL.pure rfl rfl rfl (PureOp.assign rfl) ?_
        refine SL.nil ?_
        refine QX.round 0 (k + 1) ⟨⟨(by first | omega | (dsimp only; omega)), fun j hj => by
              by_cases e : j = k
              · subst e; omega
              · exact ha j (by omega)⟩, by first | omega | (dsimp only; omega)⟩ ⟨rfl, rfl, rfl, rfl, rfl, rfl, rfl, rfl, rfl, rfl, rfl, rfl, rfl, rfl, rfl, rfl, trivial⟩ rfl
    · try simp only [Bool.and_eq_true, Bool.or_eq_true, Bool.not_eq_true', Bool.not_eq_false', Bool.and_eq_false_iff, Bool.or_eq_false_iff, decide_eq_true_eq, decide_eq_false_iff_not, Int.not_lt, Int.not_le, ne_eq, Decidable.not_not] at h2
      refine WC.exit ?_
      refine QX.exit_then ?_
      refine QX.exit_then ?_
      refine QX.exit_hit ?_
      refine QX.then_ ?_
      refine WC.seq ?_
      refine WC.region ?_
      refine SL.pure rfl rfl rfl (PureOp.assign rfl) ?_
      refine SL.nil_then ?_
      refine WC.ret ?_
      refine QX.ret1 rfl rfl ?_
      intro w hw
      refine congrArg Value.bool ?_
      rw [eq_comm, decide_eq_true_iff]
      exact list_ext (by omega) (fun j hj => ha j (by omega))

set_option maxHeartbeats 4000000 in
set_option maxRecDepth 100000 in
theorem awake52_ok (w0 : World) : FnC Try.prog 26 [] w0 fun v w' => v = .bool true := by
  refine fnc (N := 82) Try.func26 rfl rfl rfl ?_
  refine WC.seq ?_
  refine WC.region ?_
  refine SL.pure rfl rfl rfl (PureOp.assign rfl) ?_
  refine SL.nil_then ?_
  refine WC.seq ?_
  refine WC.region ?_
  refine SL.pure rfl rfl rfl (PureOp.build bld77 rfl rfl) ?_
  refine SL.pure rfl rfl rfl (PureOp.build bld77 rfl rfl) ?_
  refine SL.buildSlice rfl rfl Try.underlying53 elem77 rfl rfl rfl rfl (fun b1 hb1 => ?_)
  refine SL.itemxs 0 rfl (show _ = cellsOf enc77 [(0, 60), (1, 300)] from rfl) ?_
  refine SL.norm [_] rfl ?_
  refine SL.pure rfl rfl rfl (PureOp.assign rfl) ?_
  refine SL.nil_then ?_
  refine WC.seq ?_
  refine WC.region ?_
  refine SL.pure rfl rfl rfl (PureOp.move rfl) ?_
  refine SL.pure rfl rfl rfl (PureOp.build bld55 rfl rfl) ?_
  refine SL.pure rfl rfl rfl (PureOp.move rfl) ?_
  refine SL.pure rfl rfl rfl (PureOp.build bld55 rfl rfl) ?_
  refine SL.buildSlice rfl rfl Try.underlying43 elem55 rfl rfl rfl rfl (fun b2 hb2 => ?_)
  refine SL.itemxs 1 rfl (show _ = cellsOf enc55 (exL b1) from rfl) ?_
  refine SL.norm [_, _] rfl ?_
  refine SL.pure rfl rfl rfl (PureOp.assign rfl) ?_
  refine SL.nil_then ?_
  refine WC.seq ?_
  refine WC.region ?_
  refine SL.pure rfl rfl rfl (PureOp.move rfl) ?_
  refine SL.buildSlice rfl rfl Try.underlying29 elem3 rfl rfl rfl rfl (fun b3 hb3 => ?_)
  refine SL.itemxs 2 rfl (show _ = cellsOf encI [2, 1] from rfl) ?_
  refine SL.norm [_, _, _] rfl ?_
  refine SL.callo2 (σ := Option Addr × Nat × List (SliceV Int) × Option Addr × Nat) (fun y => .tuple #[.slice y.2.2.2.1 2 y.2.2.2.2, .int .i64 0]) (fun y => PlanIs y.1 (2 + 2 + wayS (exL b1) 2) y.2.1 [2, 1, 2, 1, 1, 1, 1, 0] (exL b1) (2 + 2) 2 y.2.2.1) (fun y => y.2.2.2.1) (fun y => y.1) (fun y => y.2.2.2.2) (fun y => y.2.1) 2 (2 + 2 + wayS (exL b1) 2) 29 3 1 1 (fun y => cellsOf encSl y.2.2.1) (fun _ => cellsOf encI [2, 1, 2, 1, 1, 1, 1, 0]) rfl rfl rfl rfl rfl rfl callable31 (fun w hw => psolve52_f w (exL b1) (some ⟨b2, 0, none⟩) 2 2 rfl (two_cases (SliceIn.rows (l := [(0, 60), (1, 300)]) (hw.mem (i := 0) rfl) enc77_len (by exact Nat.le_refl _)) (SliceIn.rows (l := [(0, 60), (1, 300)]) (hw.mem (i := 0) rfl) enc77_len (by exact Nat.le_refl _))) (SliceIn.rows (l := exL b1) (hw.mem (i := 1) rfl) enc55_len (by exact Nat.le_refl _)) [2, 1] (some ⟨b3, 0, none⟩) 2 2 rfl (SliceIn.rows (l := [2, 1]) (hw.mem (i := 2) rfl) encI_len (by exact Nat.le_refl _)) (ex_chk _) (by show (4 : Nat) ≤ 1024; decide) 5 ([2, 1, 2, 1, 1, 1, 1, 0], 3, 660) ex_slv) ?_
  rintro ⟨fa, fc, P, pa, pc⟩ hP
  have hP0 : (nth P 0).l = [1, 1] := (hP.row 0 (by decide)).trans rfl
  have hP1 : (nth P 1).l = [1, 0] := (hP.row 1 (by decide)).trans rfl
  refine SL.norm [_, _, _, _] rfl ?_
  refine SL.pure rfl rfl rfl (PureOp.move rfl) ?_
  refine SL.pure rfl rfl rfl (PureOp.extract rfl rfl) ?_
  refine SL.pure rfl rfl rfl (PureOp.extract rfl rfl) ?_
  refine SL.pure rfl rfl rfl (PureOp.assign rfl) ?_
  refine SL.pure rfl rfl rfl (PureOp.assign rfl) ?_
  refine SL.nil_then ?_
  refine WC.seq ?_
  refine WC.region ?_
  refine SL.pure rfl rfl rfl (PureOp.move rfl) ?_
  refine SL.buildSlice rfl rfl Try.underlying29 elem3 rfl rfl rfl rfl (fun b4 hb4 => ?_)
  refine SL.itemxs 4 rfl (show _ = cellsOf encI [2, 1] from rfl) ?_
  refine SL.norm [_, _, _, _, _] rfl ?_
  refine SL.buildSlice rfl rfl Try.underlying29 elem3 rfl rfl rfl rfl (fun b5 hb5 => ?_)
  refine SL.itemxs 5 rfl (show _ = cellsOf encI [2, 0] from rfl) ?_
  refine SL.norm [_, _, _, _, _, _] rfl ?_
  refine SL.buildSlice rfl rfl Try.underlying29 elem3 rfl rfl rfl rfl (fun b6 hb6 => ?_)
  refine SL.itemxs 6 rfl (show _ = cellsOf encI [0, 1 - (0 : Int)] from rfl) ?_
  refine SL.norm [_, _, _, _, _, _, _] rfl ?_
  refine SL.buildSlice rfl rfl Try.underlying44 elem29 rfl rfl rfl rfl (fun b7 hb7 => ?_)
  refine SL.itemxs 7 rfl (show _ = cellsOf encSl (exP b5 b6 0) from rfl) ?_
  refine SL.norm [_, _, _, _, _, _, _, _] rfl ?_
  refine SL.calle rfl rfl rfl rfl rfl rfl callable27 (fun w hw => (by have h := pvalid52_ok w (exL b1) (some ⟨b2, 0, none⟩) 2 2 rfl (two_cases (SliceIn.rows (l := [(0, 60), (1, 300)]) (hw.mem (i := 0) rfl) enc77_len (by exact Nat.le_refl _)) (SliceIn.rows (l := [(0, 60), (1, 300)]) (hw.mem (i := 0) rfl) enc77_len (by exact Nat.le_refl _))) (SliceIn.rows (l := exL b1) (hw.mem (i := 1) rfl) enc55_len (by exact Nat.le_refl _)) [2, 1] (some ⟨b4, 0, none⟩) 2 2 rfl (SliceIn.rows (l := [2, 1]) (hw.mem (i := 4) rfl) encI_len (by exact Nat.le_refl _)) (exP b5 b6 0) (some ⟨b7, 0, none⟩) 2 2 rfl (two_cases (SliceIn.rows (l := [2, 0]) (hw.mem (i := 5) rfl) encI_len (by exact Nat.le_refl _)) (SliceIn.rows (l := [0, 1 - (0 : Int)]) (hw.mem (i := 6) rfl) encI_len (by exact Nat.le_refl _))) (SliceIn.rows (l := (exP b5 b6 0)) (hw.mem (i := 7) rfl) encSl_len (by exact Nat.le_refl _)) (two_cases (by show (2 : Nat) ≤ 2000; decide) (by show (2 : Nat) ≤ 2000; decide)); rw [ex_val] at h; exact h)) ?_
  refine SL.norm [_, _, _, _, _, _, _, _] rfl ?_
  refine SL.pure rfl rfl rfl (PureOp.move rfl) ?_
  refine SL.pure rfl rfl rfl (PureOp.extract rfl rfl) ?_
  refine SL.pure rfl rfl rfl (PureOp.extract rfl rfl) ?_
  refine SL.pure rfl rfl rfl (PureOp.extract rfl rfl) ?_
  refine SL.pure rfl rfl rfl (PureOp.assign rfl) ?_
  refine SL.pure rfl rfl rfl (PureOp.assign rfl) ?_
  refine SL.pure rfl rfl rfl (PureOp.assign rfl) ?_
  refine SL.nil_then ?_
  refine WC.seq ?_
  refine WC.region ?_
  refine SL.pure rfl rfl rfl (PureOp.move rfl) ?_
  refine SL.buildSlice rfl rfl Try.underlying29 elem3 rfl rfl rfl rfl (fun b8 hb8 => ?_)
  refine SL.itemxs 8 rfl (show _ = cellsOf encI [2, 1] from rfl) ?_
  refine SL.norm [_, _, _, _, _, _, _, _, _] rfl ?_
  refine SL.buildSlice rfl rfl Try.underlying29 elem3 rfl rfl rfl rfl (fun b9 hb9 => ?_)
  refine SL.itemxs 9 rfl (show _ = cellsOf encI [2, 0] from rfl) ?_
  refine SL.norm [_, _, _, _, _, _, _, _, _, _] rfl ?_
  refine SL.buildSlice rfl rfl Try.underlying29 elem3 rfl rfl rfl rfl (fun b10 hb10 => ?_)
  refine SL.itemxs 10 rfl (show _ = cellsOf encI [1, 1 - (1 : Int)] from rfl) ?_
  refine SL.norm [_, _, _, _, _, _, _, _, _, _, _] rfl ?_
  refine SL.buildSlice rfl rfl Try.underlying44 elem29 rfl rfl rfl rfl (fun b11 hb11 => ?_)
  refine SL.itemxs 11 rfl (show _ = cellsOf encSl (exP b9 b10 1) from rfl) ?_
  refine SL.norm [_, _, _, _, _, _, _, _, _, _, _, _] rfl ?_
  refine SL.calle rfl rfl rfl rfl rfl rfl callable27 (fun w hw => (by have h := pvalid52_ok w (exL b1) (some ⟨b2, 0, none⟩) 2 2 rfl (two_cases (SliceIn.rows (l := [(0, 60), (1, 300)]) (hw.mem (i := 0) rfl) enc77_len (by exact Nat.le_refl _)) (SliceIn.rows (l := [(0, 60), (1, 300)]) (hw.mem (i := 0) rfl) enc77_len (by exact Nat.le_refl _))) (SliceIn.rows (l := exL b1) (hw.mem (i := 1) rfl) enc55_len (by exact Nat.le_refl _)) [2, 1] (some ⟨b8, 0, none⟩) 2 2 rfl (SliceIn.rows (l := [2, 1]) (hw.mem (i := 8) rfl) encI_len (by exact Nat.le_refl _)) (exP b9 b10 1) (some ⟨b11, 0, none⟩) 2 2 rfl (two_cases (SliceIn.rows (l := [2, 0]) (hw.mem (i := 9) rfl) encI_len (by exact Nat.le_refl _)) (SliceIn.rows (l := [1, 1 - (1 : Int)]) (hw.mem (i := 10) rfl) encI_len (by exact Nat.le_refl _))) (SliceIn.rows (l := (exP b9 b10 1)) (hw.mem (i := 11) rfl) encSl_len (by exact Nat.le_refl _)) (two_cases (by show (2 : Nat) ≤ 2000; decide) (by show (2 : Nat) ≤ 2000; decide)); rw [ex_val2] at h; exact h)) ?_
  refine SL.norm [_, _, _, _, _, _, _, _, _, _, _, _] rfl ?_
  refine SL.pure rfl rfl rfl (PureOp.move rfl) ?_
  refine SL.pure rfl rfl rfl (PureOp.extract rfl rfl) ?_
  refine SL.pure rfl rfl rfl (PureOp.extract rfl rfl) ?_
  refine SL.pure rfl rfl rfl (PureOp.extract rfl rfl) ?_
  refine SL.pure rfl rfl rfl (PureOp.assign rfl) ?_
  refine SL.pure rfl rfl rfl (PureOp.assign rfl) ?_
  refine SL.pure rfl rfl rfl (PureOp.assign rfl) ?_
  refine SL.nil_then ?_
  refine WC.seq ?_
  refine WC.region ?_
  refine SL.pure rfl rfl rfl (PureOp.move rfl) ?_
  refine SL.pure rfl rfl rfl (PureOp.eql rfl rfl) ?_
  refine SL.lit 46 true rfl (by decide) ?_
  refine SL.pure rfl rfl rfl (PureOp.move rfl) ?_
  refine SL.ung rfl rfl rfl rfl ?_
  refine SL.pure rfl rfl rfl (PureOp.move rfl) ?_
  refine SL.ung rfl rfl rfl rfl ?_
  refine SL.pure rfl rfl rfl (PureOp.len rfl Try.underlying44) ?_
  refine SL.ung rfl rfl rfl rfl ?_
  refine SL.pure rfl rfl rfl (PureOp.eql rfl rfl) ?_
  refine SL.lit 50 true rfl (by decide) ?_
  refine SL.pure rfl rfl rfl (PureOp.pickT rfl rfl) ?_
  refine SL.pure rfl rfl rfl (PureOp.move rfl) ?_
  refine SL.ung rfl rfl rfl rfl ?_
  refine SL.pure rfl rfl rfl (PureOp.move rfl) ?_
  refine SL.ung rfl rfl rfl rfl ?_
  refine SL.pure rfl rfl rfl (PureOp.indexAddr Try.underlying44 sz29 rfl rfl (AoOk.any (fun w hw => SliceIn.rows (l := P) (both1 hw 3 rfl) encSl_len (by rw [hP.len]; exact Nat.le_refl _))) (fun _ => by omega)) ?_
  refine SL.ung rfl rfl rfl rfl ?_
  refine SL.pure rfl rfl rfl (PureOp.load (v := .slice ((nth P ((0 : Int).toNat)).ao) ((nth P ((0 : Int).toNat)).l.length) ((nth P ((0 : Int).toNat)).cap)) Try.underlying29 rfl rfl (fun _ => (CellIs.any (fun w hw => SliceIn.rows (l := P) (both1 hw 3 rfl) encSl_len (by rw [hP.len]; exact Nat.le_refl _)) ((0 : Int).toNat) 0 (by omega) (by omega)))) ?_
  refine SL.ung rfl rfl rfl rfl ?_
  refine SL.buildSlice rfl rfl Try.underlying29 elem3 rfl rfl rfl rfl (fun b12 hb12 => ?_)
  refine SL.itemxs 12 rfl (show _ = cellsOf encI [1, 1] from rfl) ?_
  refine SL.norm [_, _, _, _, _, _, _, _, _, _, _, _, _] rfl ?_
  refine SL.ung rfl rfl rfl rfl ?_
  refine SL.calle rfl rfl rfl rfl rfl rfl callable34 (fun w hw => (by have h := same52_ok (nth P 0).l [1, 1] _ (some ⟨b12, 0, none⟩) _ 2 _ 2 rfl rfl w (hP.sub 0 (by decide) w (SliceIn.rows (l := [2, 1, 2, 1, 1, 1, 1, 0]) (both2 hw 3 rfl) encI_len (by exact Nat.le_refl _))) (SliceIn.rows (l := [1, 1]) (hw.mem (i := 12) rfl) encI_len (by exact Nat.le_refl _)) (by rw [hP0]; decide); rw [show decide ((nth P 0).l = [1, 1]) = true from by rw [hP0]; decide] at h; exact h)) ?_
  refine SL.norm [_, _, _, _, _, _, _, _, _, _, _, _, _] rfl ?_
  refine SL.pure rfl rfl rfl (PureOp.pickT rfl rfl) ?_
  refine SL.pure rfl rfl rfl (PureOp.move rfl) ?_
  refine SL.ung rfl rfl rfl rfl ?_
  refine SL.pure rfl rfl rfl (PureOp.move rfl) ?_
  refine SL.ung rfl rfl rfl rfl ?_
  refine SL.pure rfl rfl rfl (PureOp.indexAddr Try.underlying44 sz29 rfl rfl (AoOk.any (fun w hw => SliceIn.rows (l := P) (both1 hw 3 rfl) encSl_len (by rw [hP.len]; exact Nat.le_refl _))) (fun _ => by omega)) ?_
  refine SL.ung rfl rfl rfl rfl ?_
  refine SL.pure rfl rfl rfl (PureOp.load (v := .slice ((nth P ((1 : Int).toNat)).ao) ((nth P ((1 : Int).toNat)).l.length) ((nth P ((1 : Int).toNat)).cap)) Try.underlying29 rfl rfl (fun _ => (CellIs.any (fun w hw => SliceIn.rows (l := P) (both1 hw 3 rfl) encSl_len (by rw [hP.len]; exact Nat.le_refl _)) ((1 : Int).toNat) 0 (by omega) (by omega)))) ?_
  refine SL.ung rfl rfl rfl rfl ?_
  refine SL.buildSlice rfl rfl Try.underlying29 elem3 rfl rfl rfl rfl (fun b13 hb13 => ?_)
  refine SL.itemxs 13 rfl (show _ = cellsOf encI [1, 0] from rfl) ?_
  refine SL.norm [_, _, _, _, _, _, _, _, _, _, _, _, _, _] rfl ?_
  refine SL.ung rfl rfl rfl rfl ?_
  refine SL.calle rfl rfl rfl rfl rfl rfl callable34 (fun w hw => (by have h := same52_ok (nth P 1).l [1, 0] _ (some ⟨b13, 0, none⟩) _ 2 _ 2 rfl rfl w (hP.sub 1 (by decide) w (SliceIn.rows (l := [2, 1, 2, 1, 1, 1, 1, 0]) (both2 hw 3 rfl) encI_len (by exact Nat.le_refl _))) (SliceIn.rows (l := [1, 0]) (hw.mem (i := 13) rfl) encI_len (by exact Nat.le_refl _)) (by rw [hP1]; decide); rw [show decide ((nth P 1).l = [1, 0]) = true from by rw [hP1]; decide] at h; exact h)) ?_
  refine SL.norm [_, _, _, _, _, _, _, _, _, _, _, _, _, _] rfl ?_
  refine SL.pure rfl rfl rfl (PureOp.pickT rfl rfl) ?_
  refine SL.pure rfl rfl rfl (PureOp.move rfl) ?_
  refine SL.ung rfl rfl rfl rfl ?_
  refine SL.pure rfl rfl rfl (PureOp.move rfl) ?_
  refine SL.ung rfl rfl rfl rfl ?_
  refine SL.pure rfl rfl rfl (PureOp.eql rfl rfl) ?_
  refine SL.lit 68 true rfl (by decide) ?_
  refine SL.pure rfl rfl rfl (PureOp.pickT rfl rfl) ?_
  refine SL.pure rfl rfl rfl (PureOp.move rfl) ?_
  refine SL.ung rfl rfl rfl rfl ?_
  refine SL.pure rfl rfl rfl (PureOp.move rfl) ?_
  refine SL.ung rfl rfl rfl rfl ?_
  refine SL.pure rfl rfl rfl (PureOp.eql rfl rfl) ?_
  refine SL.lit 72 true rfl (by decide) ?_
  refine SL.pure rfl rfl rfl (PureOp.pickT rfl rfl) ?_
  refine SL.pure rfl rfl rfl (PureOp.move rfl) ?_
  refine SL.ung rfl rfl rfl rfl ?_
  refine SL.pure rfl rfl rfl (PureOp.move rfl) ?_
  refine SL.ung rfl rfl rfl rfl ?_
  refine SL.pure rfl rfl rfl (PureOp.eql rfl rfl) ?_
  refine SL.lit 76 true rfl (by decide) ?_
  refine SL.pure rfl rfl rfl (PureOp.pickT rfl rfl) ?_
  refine SL.pure rfl rfl rfl (PureOp.move rfl) ?_
  refine SL.ung rfl rfl rfl rfl ?_
  refine SL.pure rfl rfl rfl (PureOp.move rfl) ?_
  refine SL.ung rfl rfl rfl rfl ?_
  refine SL.pure rfl rfl rfl (PureOp.eql rfl rfl) ?_
  refine SL.lit 80 true rfl (by decide) ?_
  refine SL.pure rfl rfl rfl (PureOp.pickT rfl rfl) ?_
  refine SL.pure rfl rfl rfl (PureOp.assign rfl) ?_
  refine SL.nil_then ?_
  refine WC.ret ?_
  refine QX.ret1 rfl rfl ?_
  intro w hw
  rfl

end Go.Proofs.Ytngkbnaehkailaa
