import Derived.Test.YtngkbnaehkailaaRsE
import Derived.Test.YtngkbnaehkailaaPlan
namespace Go.Proofs.Ytngkbnaehkailaa
open Go Go.RowKit Eng
set_option linter.unusedVariables false
set_option linter.unusedSimpArgs false

/-- a family holds the rows of a plan -/
structure FamP (P : List (SliceV Int)) (k : Nat) (rs : List FRow) : Prop where
  len : rs.length = k
  row : ∀ i, i < k → (nth rs i).n = (nth P i).l.length ∧ (nth rs i).xs = cellsOf encI (nth P i).l
theorem FamP.nil {P : List (SliceV Int)} : FamP P 0 [] := ⟨rfl, fun i hi => by omega⟩
theorem FamP.snoc {P : List (SliceV Int)} {k n cap : Nat} {rs : List FRow} {ao : Option Addr} {xs : List Value} (h : FamP P k rs) (hn : n = (nth P k).l.length) (hx : xs = cellsOf encI (nth P k).l) : FamP P (k + 1) (rs ++ [⟨ao, n, cap, xs⟩]) := by
  refine ⟨by rw [List.length_append, h.len]; rfl, fun i hi => ?_⟩
  rw [nth_snoc, h.len]
  split
  · rename_i e; subst e; exact ⟨hn, hx⟩
  · exact h.row i (by omega)
theorem vals_get52 {rs : List FRow} {i : Nat} (h : i < rs.length) : (rs.map FRow.val)[i * 1 + 0]? = some (FRow.val (nth rs i)) := by
  rw [Nat.mul_one, Nat.add_zero, List.getElem?_map, List.getElem?_eq_getElem h]
  unfold nth
  rw [List.getD_eq_getElem?_getD, List.getElem?_eq_getElem h]; rfl
def chgP (P : List (SliceV Int)) (i kk : Nat) (y : Int) (t : Nat) : List Int := if t = i then (nth P i).l.set kk (nth (nth P i).l kk + y) else (nth P t).l
structure FamC (P : List (SliceV Int)) (i kk : Nat) (y : Int) (rs : List FRow) : Prop where
  len : rs.length = P.length
  row : ∀ t, t < P.length → (nth rs t).n = (nth P t).l.length ∧ (nth rs t).xs = cellsOf encI (chgP P i kk y t)
theorem nth_setF {rs : List FRow} {i j : Nat} {r : FRow} (h : i < rs.length) : nth (rs.set i r) j = if i = j then r else nth rs j := nth_set h
theorem FamP.put {P : List (SliceV Int)} {k i kk : Nat} {y : Int} {rs : List FRow} {r : FRow} (h : FamP P k rs) (hk : k = P.length) (hi : i < k) (hn : r.n = (nth P i).l.length) (hx : r.xs = cellsOf encI ((nth P i).l.set kk (nth (nth P i).l kk + y))) : FamC P i kk y (rs.set i r) := by
  refine ⟨by rw [List.length_set, h.len, hk], fun t ht => ?_⟩
  rw [nth_setF (by rw [h.len]; exact hi)]
  by_cases e : i = t
  · subst e; rw [if_pos rfl, chgP, if_pos rfl]; exact ⟨hn, hx⟩
  · rw [if_neg e, chgP, if_neg (fun h => e h.symm)]; exact h.row t (by omega)
theorem vals_set {rs : List FRow} {i : Nat} {r : FRow} (h : i < rs.length) (hv : r.val = (nth rs i).val) : (rs.set i r).map FRow.val = rs.map FRow.val := by
  rw [List.map_set, hv]
  apply List.ext_getElem?
  intro j
  rw [List.getElem?_set]
  split
  · rename_i e
    subst e
    have := vals_get52 h
    rw [Nat.mul_one, Nat.add_zero] at this
    rw [if_pos (by simpa using h), this]
  · rfl
set_option maxHeartbeats 4000000 in
set_option maxRecDepth 100000 in
theorem copied_ok (w0 : World) (P : List (SliceV Int)) (pa : Option Addr) (u pc : Nat) (hu : u = P.length) (hJ : ∀ i, i < u → SliceIn w0 1 (nth P i).ao (nth P i).l.length (nth P i).cap (rowsF encI (nth P i).l)) (sP : SliceIn w0 1 pa u pc (rowsF encSl P)) (i kk : Nat) (y : Int) (hi : i < u) (hkk : kk < (nth P i).l.length) (hy : -1 ≤ y ∧ y ≤ 1) (hPb : ∀ t, t < u → (nth P t).l.length ≤ 2000) (hub : u ≤ 60) (hbd : -1000000 ≤ nth (nth P i).l kk ∧ nth (nth P i).l kk ≤ 1000000) : FnC Try.prog 32 [.slice pa u pc, .int .i64 ((i : Nat) : Int), .int .i64 ((kk : Nat) : Int), .int .i64 y] w0 fun v w' => ∃ a cap rs, v = .slice a u cap ∧ FamC P i kk y rs ∧ (Item.both (.own w0.heap.size a u cap 29 1 (rs.map FRow.val)) (.fam w0.heap.size 3 1 rs)).ok w' := by
  have huB : (u : Int) ≤ 9223372036854775807 := by
    have h1 := sP.le; have h2 := sP.max; simp only [maxLen] at h2; omega
  have hJb : ∀ i, i < u → ((nth P i).l.length : Int) ≤ 9223372036854775807 := fun i hi => by
    have h1 := (hJ i hi).le; have h2 := (hJ i hi).max; simp only [maxLen] at h2; omega
  refine fnc (N := 43) Try.func32 rfl rfl rfl ?_
  refine WC.seq ?_
  refine WC.region ?_
  refine SL.pure rfl rfl rfl (PureOp.assign rfl) ?_
  refine SL.nil_then ?_
  refine WC.seq ?_
  refine WC.region ?_
  refine SL.addnil 29 1 ?_
  refine SL.heap (fun w hw => HeapOk.famNew hw w0.heap.size 3 1) ?_
  refine SL.pure rfl rfl rfl (PureOp.assign rfl) ?_
  refine SL.nil_then ?_
  refine WC.seq ?_
  refine WC.seq ?_
  refine WC.region ?_
  refine SL.pure rfl rfl rfl (PureOp.assign rfl) ?_
  refine SL.nil_then ?_
  refine WC.block ?_
  refine WC.loop (σ := Nat × List FRow × Option Addr × Nat) (fun q_ => [(0, 0, .slice pa u pc), (1, 0, .int .i64 ((i : Nat) : Int)), (2, 0, .int .i64 ((kk : Nat) : Int)), (3, 0, .int .i64 y), (8, 0, .slice none 0 0), (10, 0, .int .i64 ((q_.1 : Nat) : Int)), (9, 0, .slice q_.2.2.1 q_.1 q_.2.2.2)]) (fun q_ => [Item.own w0.heap.size q_.2.2.1 q_.1 q_.2.2.2 29 1 ((q_.2.1).map FRow.val), Item.fam w0.heap.size 3 1 (q_.2.1)]) (fun q_ => q_.1 ≤ u ∧ FamP P q_.1 q_.2.1) (fun q_ => u - q_.1) 2 ((0, [], none, 0)) (⟨Nat.zero_le _, FamP.nil⟩) ⟨rfl, rfl, rfl, rfl, rfl, rfl, rfl, rfl, rfl, rfl, rfl, rfl, rfl, rfl, trivial⟩ rfl ?_
  rintro ⟨t, rs, a, ca_⟩ ⟨ht, hfm⟩
  try dsimp only at *
  refine WC.seq ?_
  refine WC.seq ?_
  refine WC.region ?_
  refine SL.pure rfl rfl rfl (PureOp.move rfl) ?_
  refine SL.pure rfl rfl rfl (PureOp.move rfl) ?_
  refine SL.pure rfl rfl rfl (PureOp.len rfl Try.underlying44) ?_
  refine SL.pure rfl rfl rfl (PureOp.lss rfl rfl) ?_
  refine SL.nil_then ?_
  refine WC.cond rfl (fun h1 => ?_) (fun h1 => ?_)
  · try simp only [Bool.and_eq_true, Bool.or_eq_true, Bool.not_eq_true', Bool.not_eq_false', Bool.and_eq_false_iff, Bool.or_eq_false_iff, decide_eq_true_eq, decide_eq_false_iff_not, Int.not_lt, Int.not_le, ne_eq, Decidable.not_not] at h1
    have hpt := hPb t (by omega)
    refine WC.skip ?_
    refine QX.then_ ?_
    refine WC.seq ?_
    refine WC.block ?_
    refine WC.seq ?_
    refine WC.region ?_
    refine SL.addnil 3 1 ?_
    refine SL.pure rfl rfl rfl (PureOp.assign rfl) ?_
    refine SL.nil_then ?_
    refine WC.region ?_
    refine SL.pure rfl rfl rfl (PureOp.move rfl) ?_
    refine SL.pure rfl rfl rfl (PureOp.move rfl) ?_
    refine SL.pure rfl rfl rfl (PureOp.move rfl) ?_
    refine SL.pure rfl rfl rfl (PureOp.move rfl) ?_
    refine SL.pure rfl rfl rfl (PureOp.indexAddrN Try.underlying44 sz29 rfl rfl (AoOk.in_ sP) (fun _ => by omega)) ?_
    refine SL.pure rfl rfl rfl (PureOp.load (v := .slice ((nth P t).ao) ((nth P t).l.length) ((nth P t).cap)) Try.underlying29 rfl rfl (fun _ => (CellIs.in_ sP t 0 (by omega) (by omega)))) ?_
    refine SL.append 2 rfl rfl Try.underlying29 elem3 rfl rfl rfl rfl (SrcIs.in_ (hJ t (by omega)) encI_len rfl) (by exact all_one_cells (fun x => rfl) _) (by omega) (by omega) (fun ao1_ cap1_ => ?_)
    refine SL.norm [_, _, _] rfl ?_
    refine SL.buildSlice rfl rfl Try.underlying44 elem29 rfl rfl rfl rfl (fun b1 hb1 => ?_)
    refine SL.norm [_, _, _, _] rfl ?_
    refine SL.append 0 rfl rfl Try.underlying44 elem29 rfl rfl rfl rfl (SrcIs.own 3 rfl) (by rfl) (by omega) (by omega) (fun ao2_ cap2_ => ?_)
    refine SL.norm [_, _, _, _] rfl ?_
    refine SL.addnil 29 1 ?_
    refine SL.heap (fun w hw => HeapOk.famNew hw w0.heap.size 3 1) ?_
    refine SL.pure rfl rfl rfl (PureOp.assign rfl) ?_
    refine SL.nil ?_
    refine QX.normal_in ?_
    refine QX.then_ ?_
    refine WC.region ?_
    refine SL.pure rfl rfl rfl (PureOp.move rfl) ?_
    refine SL.pure rfl rfl rfl (PureOp.addN (k := 1) rfl rfl (fun _ => by omega)) ?_
    refine SL.pure rfl rfl rfl (PureOp.assign rfl) ?_
    refine SL.nil ?_
    refine QX.heap (fun w hw => HeapOk.famAdd hw 1 2 rfl rfl rfl) ?_
    refine QX.round (σ := Nat × List FRow × Option Addr × Nat) (Ef := fun q_ => [(0, 0, .slice pa u pc), (1, 0, .int .i64 ((i : Nat) : Int)), (2, 0, .int .i64 ((kk : Nat) : Int)), (3, 0, .int .i64 y), (8, 0, .slice none 0 0), (10, 0, .int .i64 ((q_.1 : Nat) : Int)), (9, 0, .slice q_.2.2.1 q_.1 q_.2.2.2)]) (Hf := fun q_ => [Item.own w0.heap.size q_.2.2.1 q_.1 q_.2.2.2 29 1 ((q_.2.1).map FRow.val), Item.fam w0.heap.size 3 1 (q_.2.1)]) (I := fun q_ => q_.1 ≤ u ∧ FamP P q_.1 q_.2.1) (μ := fun q_ => u - q_.1) (s := (t, rs, a, ca_)) 2 ((t + 1, rs ++ [⟨ao1_, 0 + ((nth P t).l.length), cap1_, ([]) ++ (cellsOf encI (nth P t).l)⟩], ao2_, cap2_)) ⟨⟨(by first | omega | (dsimp only; omega)), (by exact hfm.snoc (by omega) (by simp))⟩, by first | omega | (dsimp only; omega)⟩ ?_ ?_
    · exact ⟨rfl, rfl, rfl, rfl, rfl, rfl, rfl, rfl, rfl, rfl, rfl, rfl, rfl, rfl, trivial⟩
    · exact (by rw [List.map_append]; rfl)
  · try simp only [Bool.and_eq_true, Bool.or_eq_true, Bool.not_eq_true', Bool.not_eq_false', Bool.and_eq_false_iff, Bool.or_eq_false_iff, decide_eq_true_eq, decide_eq_false_iff_not, Int.not_lt, Int.not_le, ne_eq, Decidable.not_not] at h1
    have e_ : t = u := by omega
    subst t
    have hri := hfm.row i hi
    refine WC.heap (fun w hw => HeapOk.famTake hw 1 i rfl rfl (by rw [hfm.len]; exact hi)) ?_
    refine WC.ownfacts 2 rfl (fun hcf hnn hxl => ?_)
    obtain ⟨g_, hg_⟩ : ∃ g, (nth rs i).ao = some ⟨g, 0, none⟩ := hnn.elim (fun h => by omega) id
    rw [hg_, hri.1, hri.2]
    refine WC.exit ?_
    refine QX.exit_then ?_
    refine QX.exit_then ?_
    refine QX.exit_hit ?_
    refine QX.then_ ?_
    refine WC.seq ?_
    refine WC.drawh ([Item.own w0.heap.size a u ca_ 29 1 ((rs).map FRow.val), Item.fam w0.heap.size 3 1 (rs.set i default), Item.triv]) 16 [false, false, false, false, false, false, false, false, false, false, false, false, false, false, false, false] rfl rfl rfl ?_
    refine SD.take 0 [true, false, false, false, false, false, false, false, false, false, false, false, false, false, false, false] rfl (by kernel_rfl) rfl (fun _ h => (HeapOk.settriv h (i := 2) rfl)) rfl rfl rfl (PureOp.move rfl) ?_
    refine SD.take 1 [true, true, false, false, false, false, false, false, false, false, false, false, false, false, false, false] rfl (by kernel_rfl) rfl (fun _ h => (HeapOk.settriv h (i := 2) rfl)) rfl rfl rfl (PureOp.move rfl) ?_
    refine SD.take 2 [true, true, true, false, false, false, false, false, false, false, false, false, false, false, false, false] rfl (by kernel_rfl) rfl (fun _ h => (HeapOk.settriv h (i := 2) rfl)) rfl rfl rfl (PureOp.indexAddrN Try.underlying44 sz29 rfl rfl (AoOk.own 0 rfl) (fun _ => by omega)) ?_
    refine SD.take 3 [true, true, true, true, false, false, false, false, false, false, false, false, false, false, false, false] rfl (by kernel_rfl) rfl (fun _ h => (HeapOk.settriv h (i := 2) rfl)) rfl rfl rfl (PureOp.load (v := .slice (some ⟨g_, 0, none⟩) ((nth P i).l.length) ((nth rs i).cap)) Try.underlying29 rfl rfl (fun _ => (CellIs.ownc 0 rfl i 0 (by rw [vals_get52 (by rw [hfm.len]; exact hi), FRow.val, hg_, hri.1])))) ?_
    refine SD.take 4 [true, true, true, true, true, false, false, false, false, false, false, false, false, false, false, false] rfl (by kernel_rfl) rfl (fun _ h => (HeapOk.settriv h (i := 2) rfl)) rfl rfl rfl (PureOp.move rfl) ?_
    refine SD.take 5 [true, true, true, true, true, true, false, false, false, false, false, false, false, false, false, false] rfl (by kernel_rfl) rfl (fun _ h => (HeapOk.settriv h (i := 2) rfl)) rfl rfl rfl (PureOp.move rfl) ?_
    refine SD.take 6 [true, true, true, true, true, true, true, false, false, false, false, false, false, false, false, false] rfl (by kernel_rfl) rfl (fun _ h => (HeapOk.settriv h (i := 2) rfl)) rfl rfl rfl (PureOp.move rfl) ?_
    refine SD.take 7 [true, true, true, true, true, true, true, true, false, false, false, false, false, false, false, false] rfl (by kernel_rfl) rfl (fun _ h => (HeapOk.settriv h (i := 2) rfl)) rfl rfl rfl (PureOp.indexAddrN Try.underlying44 sz29 rfl rfl (AoOk.own 0 rfl) (fun _ => by omega)) ?_
    refine SD.take 8 [true, true, true, true, true, true, true, true, true, false, false, false, false, false, false, false] rfl (by kernel_rfl) rfl (fun _ h => (HeapOk.settriv h (i := 2) rfl)) rfl rfl rfl (PureOp.load (v := .slice (some ⟨g_, 0, none⟩) ((nth P i).l.length) ((nth rs i).cap)) Try.underlying29 rfl rfl (fun _ => (CellIs.ownc 0 rfl i 0 (by rw [vals_get52 (by rw [hfm.len]; exact hi), FRow.val, hg_, hri.1])))) ?_
    refine SD.take 9 [true, true, true, true, true, true, true, true, true, true, false, false, false, false, false, false] rfl (by kernel_rfl) rfl (fun _ h => (HeapOk.settriv h (i := 2) rfl)) rfl rfl rfl (PureOp.move rfl) ?_
    refine SD.take 10 [true, true, true, true, true, true, true, true, true, true, true, false, false, false, false, false] rfl (by kernel_rfl) rfl (fun _ h => (HeapOk.settriv h (i := 2) rfl)) rfl rfl rfl (PureOp.indexAddrN Try.underlying29 sz3 rfl rfl AoOk.lit (fun _ => by omega)) ?_
    refine SD.take 12 [true, true, true, true, true, true, true, true, true, true, true, false, true, false, false, false] rfl (by kernel_rfl) rfl (fun _ h => (HeapOk.settriv h (i := 2) rfl)) rfl rfl rfl (PureOp.move rfl) ?_
    refine SD.one 11 [true, true, true, true, true, true, true, true, true, true, true, true, true, false, false, false] (by kernel_rfl) rfl rfl ?_
    refine SL.pure rfl rfl rfl (PureOp.load (v := .int .i64 (nth (nth P i).l kk)) Try.underlying3 rfl rfl (fun _ => (CellIs.ownc 2 rfl kk 0 (by exact encI_get (by omega))))) ?_
    refine SD.back (fun _ h => (HeapOk.settriv h (i := 2) rfl)) ?_
    refine SD.take 13 [true, true, true, true, true, true, true, true, true, true, true, true, true, true, false, false] rfl (by kernel_rfl) rfl (fun _ h => (HeapOk.settriv h (i := 2) rfl)) rfl rfl rfl (PureOp.add rfl rfl (fun _ => by omega)) ?_
    refine SD.take 14 [true, true, true, true, true, true, true, true, true, true, true, true, true, true, true, false] rfl (by kernel_rfl) rfl (fun _ h => (HeapOk.settriv h (i := 2) rfl)) rfl rfl rfl (PureOp.indexAddrN Try.underlying29 sz3 rfl rfl AoOk.lit (fun _ => by omega)) ?_
    refine SD.one 15 [true, true, true, true, true, true, true, true, true, true, true, true, true, true, true, true] (by kernel_rfl) rfl rfl ?_
    refine SL.storeown (k := kk) (j := 0) 2 rfl rfl rfl rfl sz3 (by rw [cellsOf_length encI_len]; omega) rfl ?_
    refine SL.itemxs 2 rfl (show _ = cellsOf encI ((nth P i).l.set kk (nth (nth P i).l kk + y)) from encI_set (by omega)) ?_
    refine SL.norm [_, _, _] rfl ?_
    refine SD.back (fun _ h => (HeapOk.settriv h (i := 2) rfl)) ?_
    refine SD.done (by kernel_rfl) ?_
    refine QX.ofK ?_
    refine QX.then_ ?_
    refine WC.seq ?_
    refine WC.region ?_
    refine SL.pure rfl rfl rfl (PureOp.move rfl) ?_
    refine SL.pure rfl rfl rfl (PureOp.assign rfl) ?_
    refine SL.nil_then ?_
    refine WC.ret ?_
    refine QX.ret1 rfl rfl ?_
    intro w hw
    refine ⟨a, ca_, rs.set i ⟨some ⟨g_, 0, none⟩, (nth P i).l.length, (nth rs i).cap, cellsOf encI ((nth P i).l.set kk (nth (nth P i).l kk + y))⟩, rfl, hfm.put hu hi rfl rfl, ?_⟩
    have h2 := HeapOk.famPut hw 1 2 i rfl rfl rfl
    rw [List.set_set] at h2
    rw [Item.both, vals_set (by rw [hfm.len]; exact hi) (by rw [FRow.val, FRow.val, hg_, hri.1])]
    exact ⟨h2.mem (i := 0) rfl, h2.mem (i := 1) rfl⟩

end Go.Proofs.Ytngkbnaehkailaa
