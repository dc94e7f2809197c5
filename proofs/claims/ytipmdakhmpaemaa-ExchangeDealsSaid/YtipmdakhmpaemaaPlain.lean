/-
  Refunds and exchanges as plain data.
-/
import Derived.Test.YtipmdakhmpaemaaTypes
namespace Go.Proofs.Ytipmdakhmpaemaa
open Go Go.RowKit Eng
set_option linter.unusedVariables false
set_option linter.unusedSimpArgs false

abbrev Cp := ((ByteArray × Int × Int × ByteArray × ByteArray × Int × Int) × ByteArray) × ByteArray × Int × Int
abbrev Ch := ByteArray × Int
/-- amounts -/
def fitsB (a : Int) : Bool := decide (-1099511627776 ≤ a) && decide (a ≤ 1099511627776)
def sumGo : Int → List Int → Int × Int
  | n, [] => (n, 0)
  | n, x :: r => if fitsB x = true ∧ fitsB (n + x) = true then sumGo (n + x) r else (0, 11)
def sumE (l : List Int) : Int × Int := sumGo 0 l
theorem sumGo_drop {l : List Int} {i : Nat} (h : i < l.length) (n : Int) : sumGo n (l.drop i) = if fitsB (nth l i) = true ∧ fitsB (n + nth l i) = true then sumGo (n + nth l i) (l.drop (i + 1)) else (0, 11) := by
  rw [drop_nth h]; rfl
theorem fitsB_iff {a : Int} : fitsB a = true ↔ -1099511627776 ≤ a ∧ a ≤ 1099511627776 := by simp [fitsB]
theorem fitsB_not {a : Int} : fitsB a = false ↔ a < -1099511627776 ∨ 1099511627776 < a := by
  simp only [fitsB, Bool.and_eq_false_iff, decide_eq_false_iff_not, Int.not_le]
/-- coupons -/
def badE : List Cp → Int
  | [] => 0
  | c :: r => if c.2.2.1 = 2 then 28 else if c.2.2.1 = 3 ∨ c.2.2.1 = 4 then 27 else badE r
def opens : List Cp → List Int
  | [] => []
  | c :: r => if c.2.2.1 = 1 then c.2.2.2 :: opens r else opens r
theorem opens_append (a b : List Cp) : opens (a ++ b) = opens a ++ opens b := by
  induction a with
  | nil => rfl
  | cons c r ih => simp only [List.cons_append, opens]; split <;> simp [ih]
theorem opens_len (a : List Cp) : (opens a).length ≤ a.length := by
  induction a with
  | nil => exact Nat.le_refl _
  | cons c r ih => simp only [opens]; split <;> simp <;> omega
def unusedE (l : List Cp) : Int × Int := if badE l = 0 then sumE (opens l) else (0, badE l)
theorem opens_sub {l : List Cp} {k : Nat} {vs : List Int} (hv : vs = opens (l.take k)) (x : Int) (hx : x ∈ vs) : x ∈ opens l := by
  rw [← List.take_append_drop k l, opens_append, ← hv]; exact List.mem_append_left _ hx
theorem badE_nz (l : List Cp) : badE l = 0 ∨ badE l = 28 ∨ badE l = 27 := by
  induction l with
  | nil => exact .inl rfl
  | cons c r ih => simp only [badE]; split; · simp
                   split <;> simp [ih]
theorem badE_drop {l : List Cp} {i : Nat} (h : i < l.length) : badE (l.drop i) = if (nth l i).2.2.1 = 2 then 28 else if (nth l i).2.2.1 = 3 ∨ (nth l i).2.2.1 = 4 then 27 else badE (l.drop (i + 1)) := by
  rw [drop_nth h]; rfl
theorem opens_take {l : List Cp} {i : Nat} (h : i < l.length) : opens (l.take (i + 1)) = if (nth l i).2.2.1 = 1 then opens (l.take i) ++ [(nth l i).2.2.2] else opens (l.take i) := by
  rw [take_nth h, opens_append]; simp only [opens]; split <;> simp
/-- the indices of open coupons -/
def openT (l : List Cp) : Nat → List Int
  | 0 => []
  | k + 1 => if (nth l k).2.2.1 = 1 then openT l k ++ [((k : Nat) : Int)] else openT l k
theorem openT_le (l : List Cp) : ∀ k, (openT l k).length ≤ k
  | 0 => Nat.le_refl _
  | k + 1 => by have := openT_le l k; rw [openT]; split <;> simp <;> omega
/-- a ticket but for its coupons -/
structure TK where
  num : Int
  loc : ByteArray
  p1 : ByteArray
  p2 : ByteArray
  p3 : ByteArray
  fare : Int
  taxes : SliceV Ch
  total : Int
  issued : Int
def amts (x : List Ch) : List Int := x.map (·.2)
def shutB (l : List Cp) : Bool := l.any fun c => !decide (c.2.2.1 = 1)
def taxE (l : List Cp) (x : List Ch) : Int × Int := if shutB l = true then (0, 0) else sumE (amts x)
theorem openT_full (l : List Cp) : ∀ k, (openT l k).length = k ↔ ∀ i, i < k → (nth l i).2.2.1 = 1
  | 0 => by simp [openT]
  | k + 1 => by
    have ih := openT_full l k
    have hl := openT_le l k
    rw [openT]
    constructor
    · intro h i hi
      split at h
      · rename_i hs
        rw [List.length_append] at h
        by_cases e : i = k
        · rw [e]; exact hs
        · exact ih.1 (by simpa using h) i (by omega)
      · omega
    · intro h
      rw [if_pos (h k (by omega)), List.length_append, ih.2 (fun i hi => h i (by omega))]; rfl
theorem shutB_iff (l : List Cp) : shutB l = false ↔ (openT l l.length).length = l.length := by
  rw [openT_full]
  simp only [shutB, List.any_eq_false, Bool.not_eq_true', decide_eq_false_iff_not, Decidable.not_not]
  constructor
  · intro h i hi; exact h _ (nth_mem hi)
  · intro h c hc
    obtain ⟨i, hi, rfl⟩ := List.getElem_of_mem hc
    have := h i hi
    have e := nth_get (l := l) hi
    rw [List.getElem?_eq_getElem hi] at e
    rw [Option.some.inj e]; exact this
theorem amts_sub {x : List Ch} {k : Nat} {vs : List Int} (hv : vs = amts (x.take k)) (y : Int) (hy : y ∈ vs) : y ∈ amts x := by
  rw [hv, amts, List.mem_map] at hy
  obtain ⟨c, hc, rfl⟩ := hy
  exact List.mem_map.2 ⟨c, List.mem_of_mem_take hc, rfl⟩
theorem tax_end {l : List Cp} {x : List Ch} {n k : Nat} {vs : List Int} (hn : n = l.length) (hk : k ≤ x.length) (hv : vs = amts (x.take k)) (hall : 0 < k → (openT l n).length = n) (he : (openT l n).length ≠ n ∨ x.length ≤ k) : taxE l x = sumE vs := by
  subst hn
  by_cases h : (openT l l.length).length = l.length
  · rw [taxE, if_neg (by rw [(shutB_iff l).2 h]; decide), hv, List.take_of_length_le (by rcases he with q | q; exact absurd h q; exact q)]
  · have : k = 0 := by by_cases q : 0 < k; exact absurd (hall q) h; omega
    subst this
    rw [taxE, if_pos (by cases q : shutB l; exact absurd ((shutB_iff l).1 q) h; rfl), hv]; rfl
/-- what a refund pays: fare, tax, fee, pay -/
abbrev Pd := Int × Int × Int × Int
def encPd (p : Pd) : List Value := [.int .i64 p.1, .int .i64 p.2.1, .int .i64 p.2.2.1, .int .i64 p.2.2.2]
def pd0 : Pd := (0, 0, 0, 0)
def anyB (l : List Cp) : Bool := l.any fun c => decide (c.2.2.1 = 1)
def addE (a b : Int) : Int × Int := if fitsB a = true ∧ fitsB b = true ∧ fitsB (a + b) = true then (a + b, 0) else (0, 11)
def ofE (l : List Cp) (x : List Ch) (fee : Int) : Pd × Int :=
  if fee < 0 ∨ 1099511627776 < fee then (pd0, 2)
  else if (unusedE l).2 ≠ 0 then (pd0, (unusedE l).2)
  else if anyB l = false then (pd0, 27)
  else if (taxE l x).2 ≠ 0 then (pd0, (taxE l x).2)
  else if (addE (unusedE l).1 (taxE l x).1).2 ≠ 0 then (pd0, (addE (unusedE l).1 (taxE l x).1).2)
  else (((unusedE l).1, (taxE l x).1, min fee (addE (unusedE l).1 (taxE l x).1).1, (addE (unusedE l).1 (taxE l x).1).1 - min fee (addE (unusedE l).1 (taxE l x).1).1), 0)
theorem sumGo_fits : ∀ (l : List Int) (n : Int), (-1099511627776 ≤ n ∧ n ≤ 1099511627776) → -1099511627776 ≤ (sumGo n l).1 ∧ (sumGo n l).1 ≤ 1099511627776
  | [], n, h => h
  | x :: r, n, h => by
    rw [sumGo]; split
    · rename_i q; exact sumGo_fits r _ (fitsB_iff.1 q.2)
    · exact ⟨by decide, by decide⟩
theorem sumE_fits (l : List Int) : -1099511627776 ≤ (sumE l).1 ∧ (sumE l).1 ≤ 1099511627776 := sumGo_fits l 0 (by decide)
theorem unusedE_fits (l : List Cp) : -1099511627776 ≤ (unusedE l).1 ∧ (unusedE l).1 ≤ 1099511627776 := by
  rw [unusedE]; split; exact sumE_fits _; exact ⟨by show (-1099511627776 : Int) ≤ 0; decide, by show (0 : Int) ≤ 1099511627776; decide⟩
theorem taxE_fits (l : List Cp) (x : List Ch) : -1099511627776 ≤ (taxE l x).1 ∧ (taxE l x).1 ≤ 1099511627776 := by
  rw [taxE]; split; exact ⟨by decide, by decide⟩; exact sumE_fits _
theorem addE_fits (a b : Int) : -1099511627776 ≤ (addE a b).1 ∧ (addE a b).1 ≤ 1099511627776 := by
  rw [addE]; split; (rename_i q; exact fitsB_iff.1 q.2.2); exact ⟨by decide, by decide⟩
theorem of_1 {l : List Cp} {x : List Ch} {fee : Int} (h : fee < 0 ∨ 1099511627776 < fee) : ofE l x fee = (pd0, 2) := by rw [ofE, if_pos h]
theorem of_2 {l : List Cp} {x : List Ch} {fee : Int} (h : ¬ (fee < 0 ∨ 1099511627776 < fee)) (h2 : (unusedE l).2 ≠ 0) : ofE l x fee = (pd0, (unusedE l).2) := by rw [ofE, if_neg h, if_pos h2]
theorem of_3 {l : List Cp} {x : List Ch} {fee : Int} (h : ¬ (fee < 0 ∨ 1099511627776 < fee)) (h2 : (unusedE l).2 = 0) (h3 : anyB l = false) : ofE l x fee = (pd0, 27) := by rw [ofE, if_neg h, if_neg (by omega), if_pos h3]
theorem of_4 {l : List Cp} {x : List Ch} {fee : Int} (h : ¬ (fee < 0 ∨ 1099511627776 < fee)) (h2 : (unusedE l).2 = 0) (h3 : anyB l = true) (h4 : (taxE l x).2 ≠ 0) : ofE l x fee = (pd0, (taxE l x).2) := by rw [ofE, if_neg h, if_neg (by omega), if_neg (by rw [h3]; decide), if_pos h4]
theorem of_5 {l : List Cp} {x : List Ch} {fee : Int} (h : ¬ (fee < 0 ∨ 1099511627776 < fee)) (h2 : (unusedE l).2 = 0) (h3 : anyB l = true) (h4 : (taxE l x).2 = 0) (h5 : (addE (unusedE l).1 (taxE l x).1).2 ≠ 0) : ofE l x fee = (pd0, (addE (unusedE l).1 (taxE l x).1).2) := by rw [ofE, if_neg h, if_neg (by omega), if_neg (by rw [h3]; decide), if_neg (by omega), if_pos h5]
theorem of_6 {l : List Cp} {x : List Ch} {fee : Int} (h : ¬ (fee < 0 ∨ 1099511627776 < fee)) (h2 : (unusedE l).2 = 0) (h3 : anyB l = true) (h4 : (taxE l x).2 = 0) (h5 : (addE (unusedE l).1 (taxE l x).1).2 = 0) : ofE l x fee = (((unusedE l).1, (taxE l x).1, min fee (addE (unusedE l).1 (taxE l x).1).1, (addE (unusedE l).1 (taxE l x).1).1 - min fee (addE (unusedE l).1 (taxE l x).1).1), 0) := by rw [ofE, if_neg h, if_neg (by omega), if_neg (by rw [h3]; decide), if_neg (by omega), if_neg (by omega)]
theorem openT_none (l : List Cp) : anyB l = false ↔ (openT l l.length).length = 0 := by
  have key : ∀ k, (openT l k).length = 0 ↔ ∀ i, i < k → (nth l i).2.2.1 ≠ 1 := by
    intro k
    induction k with
    | zero => simp [openT]
    | succ k ih =>
      rw [openT]
      constructor
      · intro h i hi
        split at h
        · rw [List.length_append] at h; simp at h
        · rename_i q
          by_cases e : i = k
          · rw [e]; exact q
          · exact ih.1 h i (by omega)
      · intro h
        rw [if_neg (h k (by omega))]
        exact ih.2 fun i hi => h i (by omega)
  rw [key]
  simp only [anyB, List.any_eq_false, decide_eq_true_eq]
  constructor
  · intro h i hi; exact h _ (nth_mem hi)
  · intro h c hc
    obtain ⟨i, hi, rfl⟩ := List.getElem_of_mem hc
    have e := nth_get (l := l) hi
    rw [List.getElem?_eq_getElem hi] at e
    rw [Option.some.inj e]; exact h i hi
theorem unused_end {l : List Cp} {k : Nat} {vs : List Int} (hk : l.length ≤ k) (hb : badE (l.drop k) = badE l) (hv : vs = opens (l.take k)) : unusedE l = sumE vs := by
  rw [List.drop_eq_nil_of_le hk] at hb
  rw [List.take_of_length_le hk] at hv
  rw [unusedE, if_pos (by rw [← hb]; rfl), hv]
theorem unused_bad {l : List Cp} {k : Nat} {e : Int} (hb : badE (l.drop k) = badE l) (he : badE (l.drop k) = e) (h0 : e ≠ 0) : unusedE l = (0, e) := by
  rw [unusedE, if_neg (by omega), ← hb, he]
/-- a coupon with another status -/
def setS (c : Cp) (s : Int) : Cp := (c.1, c.2.1, s, c.2.2.2)
/-- open coupons get another status -/
def mv (e : Int) (c : Cp) : Cp := if c.2.2.1 = 1 then setS c (e - 2) else c
def cutM (l : List Cp) (e : Int) (k : Nat) : List Cp := (l.take k).map (mv e) ++ l.drop k
theorem cutM_len (l : List Cp) (e : Int) (k : Nat) : (cutM l e k).length = l.length := by
  rw [cutM, List.length_append, List.length_map, List.length_take, List.length_drop]; omega
theorem cutM_zero (l : List Cp) (e : Int) : cutM l e 0 = l := rfl
theorem cutM_all {l : List Cp} {e : Int} {k : Nat} (h : l.length ≤ k) : cutM l e k = l.map (mv e) := by
  rw [cutM, List.take_of_length_le h, List.drop_eq_nil_of_le h, List.append_nil]
theorem cutM_split {l : List Cp} {e : Int} {k : Nat} (h : k < l.length) : cutM l e k = (l.take k).map (mv e) ++ nth l k :: l.drop (k + 1) := by
  rw [cutM, drop_nth h]
theorem cutM_at {l : List Cp} {e : Int} {k : Nat} (h : k < l.length) : nth (cutM l e k) k = nth l k := by
  have hk : k < (cutM l e k).length := by rw [cutM_len]; exact h
  have e1 := nth_get (l := cutM l e k) hk
  rw [cutM_split h] at e1 ⊢
  have hl : ((l.take k).map (mv e)).length = k := by rw [List.length_map, List.length_take]; omega
  rw [List.getElem?_append_right (by omega), hl, Nat.sub_self] at e1
  exact (Option.some.inj e1).symm
theorem cutM_open {l : List Cp} {e : Int} {k : Nat} (h : k < l.length) (ho : (nth l k).2.2.1 = 1) : (cutM l e k).set k (setS (nth (cutM l e k) k) (e - 2)) = cutM l e (k + 1) := by
  rw [cutM_at h, cutM_split h]
  have hl : ((l.take k).map (mv e)).length = k := by rw [List.length_map, List.length_take]; omega
  rw [List.set_append_right _ _ (by omega), hl, Nat.sub_self, List.set_cons_zero, cutM, take_nth h, List.map_append, List.append_assoc]
  show _ = _ ++ ([mv e (nth l k)] ++ _)
  rw [mv, if_pos ho]; rfl
theorem cutM_shut {l : List Cp} {e : Int} {k : Nat} (h : k < l.length) (ho : ¬ (nth l k).2.2.1 = 1) : cutM l e k = cutM l e (k + 1) := by
  rw [cutM_split h, cutM, take_nth h, List.map_append, List.append_assoc]
  show _ = _ ++ ([mv e (nth l k)] ++ _)
  rw [mv, if_neg ho]; rfl
def cutI (l : List Cp) (e : Int) (is : List Int) : List Cp := is.foldl (fun cs i => cs.set i.toNat (setS (nth cs i.toNat) (e - 2))) l
theorem cutI_openT {l : List Cp} (e : Int) : ∀ k, k ≤ l.length → cutI l e (openT l k) = cutM l e k
  | 0, _ => rfl
  | k + 1, h => by
    have ih := cutI_openT (l := l) e k (by omega)
    rw [openT]; split
    · rename_i ho
      rw [cutI, List.foldl_append]
      show List.set (cutI l e (openT l k)) k (setS (nth (cutI l e (openT l k)) k) (e - 2)) = _
      rw [ih, cutM_open (by omega) ho]
    · rename_i ho
      rw [ih, cutM_shut (by omega) ho]
theorem openT_pre {l : List Cp} : ∀ n, n ≤ l.length → ∀ k, k < (openT l n).length → ∃ j : Nat, j < n ∧ nth (openT l n) k = (j : Int) ∧ (openT l n).take k = openT l j ∧ (nth l j).2.2.1 = 1
  | 0, _, k, hk => absurd hk (by simp [openT])
  | n + 1, hn, k, hk => by
    have ih := openT_pre (l := l) n (by omega) k
    rw [openT] at hk ⊢
    split at hk
    · rename_i ho
      rw [if_pos ho]
      rw [List.length_append] at hk
      by_cases q : k < (openT l n).length
      · obtain ⟨j, h1, h2, h3, h4⟩ := ih q
        refine ⟨j, by omega, ?_, ?_, h4⟩
        · rw [← h2]
          have q1 := nth_get (l := openT l n ++ [(n : Int)]) (i := k) (by rw [List.length_append]; omega)
          have q2 := nth_get (l := openT l n) q
          rw [List.getElem?_append_left q, q2] at q1
          exact (Option.some.inj q1).symm
        · rw [List.take_append_of_le_length (by omega), h3]
      · have hk2 : k = (openT l n).length := by simp at hk; omega
        refine ⟨n, by omega, ?_, ?_, ho⟩
        · have q1 := nth_get (l := openT l n ++ [(n : Int)]) (i := k) (by rw [List.length_append]; simp; omega)
          rw [List.getElem?_append_right (by omega), hk2, Nat.sub_self] at q1
          rw [hk2]
          exact (Option.some.inj q1).symm
        · rw [hk2, List.take_left']; rfl
    · rename_i ho
      rw [if_neg ho]
      obtain ⟨j, h1, h2, h3, h4⟩ := ih hk
      exact ⟨j, by omega, h2, h3, h4⟩
theorem cutI_step {l : List Cp} {e : Int} {k : Nat} (hk : k < (openT l l.length).length) : cutI l e ((openT l l.length).take (k + 1)) = (cutI l e ((openT l l.length).take k)).set (nth (openT l l.length) k).toNat (setS (nth (cutI l e ((openT l l.length).take k)) (nth (openT l l.length) k).toNat) (e - 2)) := by
  rw [take_nth hk, cutI, List.foldl_append]; rfl
theorem cutI_len {l : List Cp} {e : Int} (is : List Int) : (cutI l e is).length = l.length := by
  rw [cutI]
  induction is generalizing l with
  | nil => rfl
  | cons i r ih => rw [List.foldl_cons, ih, List.length_set]
theorem cutI_at {l : List Cp} {e : Int} {k : Nat} (hk : k < (openT l l.length).length) : (0 ≤ nth (openT l l.length) k ∧ nth (openT l l.length) k < l.length) ∧ (nth (cutI l e ((openT l l.length).take k)) (nth (openT l l.length) k).toNat).2.2.1 = 1 := by
  obtain ⟨j, h1, h2, h3, h4⟩ := openT_pre l.length (Nat.le_refl _) k hk
  rw [h2, h3, cutI_openT e j (by omega)]
  refine ⟨by omega, ?_⟩
  rw [show ((j : Int)).toNat = j from rfl, cutM_at h1]; exact h4
theorem ofE_ok {l : List Cp} {x : List Ch} {fee : Int} (h : (ofE l x fee).2 = 0) : anyB l = true := by
  rw [ofE] at h
  repeat' split at h
  · cases h
  · rename_i h1 h2; exact absurd h h2
  · cases h
  · rename_i h1 h2 h3 h4; exact absurd h h4
  · rename_i h1 h2 h3 h4 h5; exact absurd h h5
  · rename_i h1 h2 h3 h4 h5; cases q : anyB l; exact absurd q h3; rfl
theorem ofE_err {l : List Cp} {x : List Ch} {fee : Int} (h : ¬ (ofE l x fee).2 = 0) : (ofE l x fee).1 = pd0 := by
  rw [ofE] at h ⊢
  repeat' split
  all_goals first | rfl | skip
  exact absurd rfl (by rename_i h1 h2 h3 h4 h5; rw [if_neg h1, if_neg h2, if_neg h3, if_neg h4, if_neg h5] at h; exact h)
def tk0 : TK := ⟨0, ⟨#[]⟩, ⟨#[]⟩, ⟨#[]⟩, ⟨#[]⟩, 0, ⟨none, 0, []⟩, 0, 0⟩
def tkA (t : TK) (e : Int) : TK := if e = 0 then t else tk0
def lA (l : List Cp) (ev e : Int) : List Cp := if e = 0 then l.map (mv ev) else []
@[reducible] def tkv (t : TK) (s : Value) : List Value := [.int .i64 t.num, .string t.loc, .string t.p1, .string t.p2, .string t.p3, s, .int .i64 t.fare, .slice t.taxes.ao t.taxes.l.length t.taxes.cap, .int .i64 t.total, .int .i64 t.issued]
theorem lA_len {l : List Cp} {ev e : Int} : (lA l ev e).length = if e = 0 then l.length else 0 := by unfold lA; split <;> simp
theorem any_take_all {l : List Cp} {k : Nat} (h : l.length ≤ k) (ha : anyB (l.take k) = false) : anyB l = false := by rwa [List.take_of_length_le h] at ha
theorem any_take {l : List Cp} {k : Nat} (h : k < l.length) (ha : anyB (l.take k) = false) (ho : ¬ (nth l k).2.2.1 = 1) : anyB (l.take (k + 1)) = false := by
  rw [take_nth h, anyB, List.any_append]
  rw [anyB] at ha
  rw [ha]; simp [ho]
/-- the slice of coupons is either the argument's or the caller's own -/
theorem src_of {w0 w : World} {H : Heap} (hw : HeapOk w0 H w) {i n c cap pn pc : Nat} {a ao pa : Option Addr} {cs l : List Cp} {px : List Value} {Q : Prop} (hi : H[i]? = some (.own w0.heap.size pa pn pc 65 11 px))
    (hph : (pa = a ∧ pn = n ∧ pc = c ∧ px = cellsOf enc65 cs) ∨ (Q ∧ a = ao ∧ c = cap ∧ cs = l)) (hz : SliceIn w0 11 ao n cap (rowsF enc65 l)) (hn : n = cs.length) : SliceIn w 11 a n c (rowsF enc65 cs) := by
  rcases hph with ⟨rfl, rfl, rfl, rfl⟩ | ⟨_, rfl, rfl, rfl⟩
  · exact SliceIn.rows (hw.mem hi) enc65_len (by omega)
  · exact hz.below hw.below
/-- exchanges -/
def outB (n : Int) : Bool := decide (n < 0) || decide (1099511627776 < n)
def resid (l : List Cp) (x : List Ch) : Int := (ofE l x 0).1.1 + (ofE l x 0).1.2.1
def exE (l : List Cp) (x : List Ch) (total fee : Int) : Pd × Int :=
  if outB fee = true ∨ outB total = true then (pd0, 2)
  else if (ofE l x 0).2 ≠ 0 then (pd0, (ofE l x 0).2)
  else if 1099511627776 < total + fee - resid l x then (pd0, 11)
  else ((resid l x, fee, max (total + fee - resid l x) 0, max (-(total + fee - resid l x)) 0), 0)
theorem outB_iff {n : Int} : outB n = true ↔ n < 0 ∨ 1099511627776 < n := by simp [outB]
theorem outB_not {n : Int} : outB n = false ↔ 0 ≤ n ∧ n ≤ 1099511627776 := by simp [outB]
theorem ofE_fits (l : List Cp) (x : List Ch) (fee : Int) : (-1099511627776 ≤ (ofE l x fee).1.1 ∧ (ofE l x fee).1.1 ≤ 1099511627776) ∧ -1099511627776 ≤ (ofE l x fee).1.2.1 ∧ (ofE l x fee).1.2.1 ≤ 1099511627776 := by
  have q1 := unusedE_fits l
  have q2 := taxE_fits l x
  have z : (-1099511627776 : Int) ≤ 0 ∧ (0 : Int) ≤ 1099511627776 := by decide
  rw [ofE]
  repeat' split
  all_goals first | exact ⟨z, z⟩ | exact ⟨q1, q2⟩
theorem ex_1 {l : List Cp} {x : List Ch} {total fee : Int} (h : outB fee = true ∨ outB total = true) : exE l x total fee = (pd0, 2) := by rw [exE, if_pos h]
theorem ex_2 {l : List Cp} {x : List Ch} {total fee : Int} (h : outB fee = false) (h' : outB total = false) (h2 : ¬ (ofE l x 0).2 = 0) : exE l x total fee = (pd0, (ofE l x 0).2) := by rw [exE, if_neg (by rw [h, h']; decide), if_pos h2]
theorem ex_3 {l : List Cp} {x : List Ch} {total fee : Int} (h : outB fee = false) (h' : outB total = false) (h2 : (ofE l x 0).2 = 0) (h3 : 1099511627776 < total + fee - resid l x) : exE l x total fee = (pd0, 11) := by rw [exE, if_neg (by rw [h, h']; decide), if_neg (by omega), if_pos h3]
theorem ex_4 {l : List Cp} {x : List Ch} {total fee : Int} (h : outB fee = false) (h' : outB total = false) (h2 : (ofE l x 0).2 = 0) (h3 : ¬ 1099511627776 < total + fee - resid l x) : exE l x total fee = ((resid l x, fee, max (total + fee - resid l x) 0, max (-(total + fee - resid l x)) 0), 0) := by rw [exE, if_neg (by rw [h, h']; decide), if_neg (by omega), if_neg h3]
theorem exE_ok {l : List Cp} {x : List Ch} {total fee : Int} (h : (exE l x total fee).2 = 0) : anyB l = true := by
  rw [exE] at h
  repeat' split at h
  · cases h
  · rename_i h1 h2; exact absurd h h2
  · cases h
  · rename_i h1 h2 h3; exact ofE_ok (fee := 0) (x := x) (by omega)
theorem exE_err {l : List Cp} {x : List Ch} {total fee : Int} (h : ¬ (exE l x total fee).2 = 0) : (exE l x total fee).1 = pd0 := by
  rw [exE] at h ⊢
  repeat' split
  all_goals first | rfl | skip
  exact absurd rfl (by rename_i h1 h2 h3; rw [if_neg h1, if_neg h2, if_neg h3] at h; exact h)
theorem any_at {l : List Cp} {k : Nat} (h : k < l.length) (ho : (nth l k).2.2.1 = 1) : anyB l = true := by
  rw [anyB, List.any_eq_true]; exact ⟨_, nth_mem h, by simp [ho]⟩
/-- tariffs: rules, fares, parts -/
abbrev Ru := Int × (Int × (SliceV Unit) × Int × Int × (Int × Int × Int) × (SliceV Unit)) × (SliceV Unit) × Int × Int × Int × Int × (SliceV Unit)
abbrev Fa := ByteArray × ByteArray × ByteArray × ByteArray × ByteArray × Bool × Int × Int × Int
abbrev Pa := Int × Int × Int × Int
def ru0 : Ru := (0, (0, ⟨none, 0, []⟩, 0, 0, (0, 0, 0), ⟨none, 0, []⟩), ⟨none, 0, []⟩, 0, 0, 0, 0, ⟨none, 0, []⟩)
def ruleE : List Ru → Int → Ru × Bool
  | [], _ => (ru0, false)
  | r :: q, n => if r.1 = n then (r, true) else ruleE q n
theorem ruleE_drop {l : List Ru} {i : Nat} (h : i < l.length) (n : Int) : ruleE (l.drop i) n = if (nth l i).1 = n then (nth l i, true) else ruleE (l.drop (i + 1)) n := by
  rw [drop_nth h]; rfl
theorem ruleE_end {l : List Ru} {i : Nat} (h : l.length ≤ i) (n : Int) : ruleE (l.drop i) n = (ru0, false) := by
  rw [List.drop_eq_nil_of_le h]; rfl
@[reducible] def cfee (r : Ru) : Int := r.2.2.2.2.2.1
@[reducible] def rfee (r : Ru) : Int := r.2.2.2.2.2.2.1
def feeGo (fl : List Fa) (rl : List Ru) (sel : Ru → Int) : Int → List Pa → Int × Int
  | n, [] => (n, 0)
  | n, p :: r => if p.2.2.1 < 0 ∨ (fl.length : Int) ≤ p.2.2.1 then (0, 19)
    else if (ruleE rl (nth fl p.2.2.1.toNat).2.2.2.2.2.2.2.1).2 = false ∨ sel (ruleE rl (nth fl p.2.2.1.toNat).2.2.2.2.2.2.2.1).1 < 0 then (0, 20)
    else feeGo fl rl sel (max n (sel (ruleE rl (nth fl p.2.2.1.toNat).2.2.2.2.2.2.2.1).1)) r
def feeE (fl : List Fa) (rl : List Ru) (sel : Ru → Int) (ps : List Pa) : Int × Int := feeGo fl rl sel 0 ps
theorem feeGo_drop {fl : List Fa} {rl : List Ru} {sel : Ru → Int} {l : List Pa} {i : Nat} (h : i < l.length) (n : Int) : feeGo fl rl sel n (l.drop i) = if (nth l i).2.2.1 < 0 ∨ (fl.length : Int) ≤ (nth l i).2.2.1 then (0, 19)
    else if (ruleE rl (nth fl (nth l i).2.2.1.toNat).2.2.2.2.2.2.2.1).2 = false ∨ sel (ruleE rl (nth fl (nth l i).2.2.1.toNat).2.2.2.2.2.2.2.1).1 < 0 then (0, 20)
    else feeGo fl rl sel (max n (sel (ruleE rl (nth fl (nth l i).2.2.1.toNat).2.2.2.2.2.2.2.1).1)) (l.drop (i + 1)) := by
  rw [drop_nth h]; rfl
theorem feeGo_end {fl : List Fa} {rl : List Ru} {sel : Ru → Int} {l : List Pa} {i : Nat} (h : l.length ≤ i) (n : Int) : feeGo fl rl sel n (l.drop i) = (n, 0) := by
  rw [List.drop_eq_nil_of_le h]; rfl
/-- what the statements ask of tickets -/
def EvenT (l : List Cp) (x : List Ch) : Prop := (∀ c ∈ l, 0 ≤ c.2.2.2) ∧ (∀ y ∈ x, 0 ≤ y.2) ∧ l.length ≤ 100 ∧ x.length ≤ 100
theorem all_take {α : Type} [Inhabited α] {p : α → Prop} {l : List α} {k : Nat} (h : k < l.length) (ha : ∀ c ∈ l.take k, p c) (hp : p (nth l k)) : ∀ c ∈ l.take (k + 1), p c := by
  intro c hc
  rw [take_nth h, List.mem_append] at hc
  rcases hc with hc | hc
  · exact ha c hc
  · rw [List.mem_singleton] at hc; rw [hc]; exact hp
theorem all_whole {α : Type} {p : α → Prop} {l : List α} {k : Nat} (h : l.length ≤ k) (ha : ∀ c ∈ l.take k, p c) : ∀ c ∈ l, p c := by rwa [List.take_of_length_le h] at ha
def sumV : List Int → Int
  | [] => 0
  | x :: r => x + sumV r
theorem sumV_append (a b : List Int) : sumV (a ++ b) = sumV a + sumV b := by
  induction a with
  | nil => simp [sumV]
  | cons x r ih => simp only [List.cons_append, sumV, ih]; omega
def vals (l : List Cp) : List Int := l.map (·.2.2.2)
theorem vals_take {l : List Cp} {k : Nat} (h : k < l.length) : sumV (vals (l.take (k + 1))) = sumV (vals (l.take k)) + (nth l k).2.2.2 := by
  rw [take_nth h, vals, List.map_append, sumV_append]; simp [vals, sumV]
theorem amts_take {l : List Ch} {k : Nat} (h : k < l.length) : sumV (amts (l.take (k + 1))) = sumV (amts (l.take k)) + (nth l k).2 := by
  rw [take_nth h, amts, List.map_append, sumV_append]; simp [amts, sumV]
theorem sumV_le {l : List Cp} (b : Int) (h : ∀ c ∈ l, 0 ≤ c.2.2.2 ∧ c.2.2.2 ≤ b) : 0 ≤ sumV (vals l) ∧ sumV (vals l) ≤ l.length * b := by
  induction l with
  | nil => simp [vals, sumV]
  | cons c r ih =>
    have h1 := h c (List.mem_cons_self ..)
    have h2 := ih fun d hd => h d (List.mem_cons_of_mem _ hd)
    simp only [vals, List.map_cons, sumV, List.length_cons] at h2 ⊢
    rw [Int.natCast_add, Int.add_mul]; omega
def FitsT (fare total : Int) (l : List Cp) (x : List Ch) : Prop :=
  (1 ≤ l.length ∧ l.length ≤ 6) ∧ (0 ≤ fare ∧ fare ≤ 1099511627776) ∧ (0 ≤ total ∧ total ≤ 1099511627776) ∧ (∀ c ∈ l, (0 ≤ c.2.2.2 ∧ c.2.2.2 ≤ 1099511627776) ∧ 1 ≤ c.2.2.1 ∧ c.2.2.1 ≤ 8) ∧ (∀ y ∈ x, 0 ≤ y.2 ∧ y.2 ≤ 1099511627776) ∧ sumV (vals l) = fare ∧ fare + sumV (amts x) = total
theorem opens_mem {l : List Cp} {x : Int} (h : x ∈ opens l) : ∃ c ∈ l, c.2.2.2 = x := by
  induction l with
  | nil => cases h
  | cons c r ih =>
    simp only [opens] at h
    split at h
    · rcases List.mem_cons.1 h with h | h
      · exact ⟨c, List.mem_cons_self .., h.symm⟩
      · obtain ⟨d, hd, e⟩ := ih h; exact ⟨d, List.mem_cons_of_mem _ hd, e⟩
    · obtain ⟨d, hd, e⟩ := ih h; exact ⟨d, List.mem_cons_of_mem _ hd, e⟩
theorem amts_mem {x : List Ch} {n : Int} (h : n ∈ amts x) : ∃ y ∈ x, y.2 = n := by
  obtain ⟨y, hy, e⟩ := List.mem_map.1 h; exact ⟨y, hy, e⟩
theorem tax_nil {w : World} {α : Type} [Inhabited α] {enc : α → List Value} {sz : Nat} : SliceIn w sz none 0 0 (rowsF enc []) := ⟨Nat.le_refl _, Nat.zero_le _, .inl rfl, fun i hi => absurd hi (by omega)⟩
theorem tkA_tax {w : World} {t : TK} {e : Int} (h : SliceIn w 2 t.taxes.ao t.taxes.l.length t.taxes.cap (rowsF enc67 t.taxes.l)) : SliceIn w 2 (tkA t e).taxes.ao (tkA t e).taxes.l.length (tkA t e).taxes.cap (rowsF enc67 (tkA t e).taxes.l) := by
  unfold tkA
  split
  · exact h
  · exact tax_nil
theorem tkA_len {t : TK} {e : Int} (h : t.taxes.l.length ≤ 1000) : (tkA t e).taxes.l.length ≤ 1000 := by
  unfold tkA
  split
  · exact h
  · exact Nat.zero_le _
theorem lA_le {l : List Cp} {ev e : Int} (h : l.length ≤ 1000) : (lA l ev e).length ≤ 1000 := by rw [lA_len]; split <;> omega
end Go.Proofs.Ytipmdakhmpaemaa
