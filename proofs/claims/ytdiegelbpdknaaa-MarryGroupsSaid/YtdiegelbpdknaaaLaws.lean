/-
  Marriage numbers: what is left of a slice while a function goes through it.
-/
import Derived.Test.YtdiegelbpdknaaaPlain
namespace Go.Proofs.Ytdiegelbpdknaaa
open Go Go.RowKit Eng
set_option linter.unusedVariables false
set_option linter.unusedSimpArgs false
def fl (l : List Int) (x k : Nat) : List Int := ((List.range k).filter (selB l x)).map fun (i : Nat) => (i : Int)
theorem fl_true {l : List Int} {x k : Nat} (h : selB l x k = true) : fl l x (k + 1) = fl l x k ++ [(k : Int)] := by
  simp [fl, List.range_succ, h]
theorem fl_false {l : List Int} {x k : Nat} (h : selB l x k = false) : fl l x (k + 1) = fl l x k := by
  simp [fl, List.range_succ, h]
theorem fl_le (l : List Int) (x k : Nat) : (fl l x k).length ≤ k := by
  simp only [fl, List.length_map]
  have := List.length_filter_le (selB l x) (List.range k)
  simpa using this
theorem withE_bad {l : List Int} {x : Int} (h : checkF l ≠ 0) : withE l x = checkF l ∧ withX l x = [] := by
  have e : withE l x = checkF l := by rw [withE, if_pos h]
  exact ⟨e, by rw [withX, if_neg (by rw [e]; exact h)]⟩
theorem withE_out {l : List Int} {x : Int} (h : checkF l = 0) (ho : x < 0 ∨ (l.length : Int) ≤ x) : withE l x = 2 ∧ withX l x = [] := by
  have e : withE l x = 2 := by rw [withE, if_neg (by rw [h]; simp), if_pos ho]
  exact ⟨e, by rw [withX, if_neg (by rw [e]; decide)]⟩
theorem withE_in {l : List Int} {x : Int} (h : checkF l = 0) (ho : ¬ (x < 0 ∨ (l.length : Int) ≤ x)) : withE l x = 0 ∧ withX l x = fl l x.toNat l.length := by
  have e : withE l x = 0 := by rw [withE, if_neg (by rw [h]; simp), if_neg ho]
  exact ⟨e, by rw [withX, if_pos e]; rfl⟩
theorem withX_mem {l : List Int} {x y : Int} (h : y ∈ withX l x) : 0 ≤ y ∧ y < l.length := by
  unfold withX at h
  split at h
  · simp only [List.mem_map, List.mem_filter, List.mem_range] at h
    obtain ⟨i, ⟨h1, _⟩, rfl⟩ := h
    omega
  · simp at h
theorem withX_le (l : List Int) (x : Int) : (withX l x).length ≤ l.length := by
  unfold withX
  split
  · exact fl_le l x.toNat l.length
  · simp
/-! zeros at the places of a group -/
def zs : List Int → List Int → List Int
  | l, [] => l
  | l, p :: r => zs (l.set p.toNat 0) r
theorem zs_length : ∀ (p l : List Int), (zs l p).length = l.length
  | [], _ => rfl
  | _ :: r, l => by rw [zs, zs_length r]; simp
def partX (l : List Int) (x : Int) : List Int := if withE l x = 0 then zs l (withX l x) else []
theorem partX_bad {l : List Int} {x : Int} (h : withE l x ≠ 0) : partX l x = [] := by rw [partX, if_neg h]
theorem set_cells {l : List Int} {p : Nat} {v : Int} (h : p < l.length) : (cellsOf encI l).set (p * 1 + 0) (.int .i64 v) = cellsOf encI (l.set p v) :=
  cellsOf_set encI_len l p 0 (.int .i64 v) v h (by omega) rfl
/-! numbers in order -/
def cn (l : List Int) : Nat → Nat
  | 0 => 0
  | k + 1 => if 0 < nth l (nth (gi l l.length) k).1 then cn l k + 1 else cn l k
def xk (l : List Int) : Nat → List Int
  | 0 => []
  | k + 1 => xk l k ++ List.replicate (nth (gi l l.length) k).2 (if 0 < nth l (nth (gi l l.length) k).1 then ((cn l k + 1 : Nat) : Int) else 0)
theorem xk_len (l : List Int) : ∀ k, k < (gi l l.length).length → (xk l k).length = (nth (gi l l.length) k).1
  | 0, h => by rw [(gi_inv l l.length).fst h]; rfl
  | k + 1, h => by
    rw [xk, List.length_append, xk_len l k (by omega), List.length_replicate, (gi_inv l l.length).next k h]
theorem xk_all (l : List Int) : (xk l (gi l l.length).length).length = l.length := by
  have hI := gi_inv l l.length
  rcases Nat.eq_zero_or_pos (gi l l.length).length with h | h
  · rw [h]
    show 0 = l.length
    rcases Nat.eq_zero_or_pos l.length with q | q
    · exact q.symm
    · have := hI.pos q; omega
  · have e := hI.last h
    have e2 := xk_len l ((gi l l.length).length - 1) (by omega)
    have : (gi l l.length).length = (gi l l.length).length - 1 + 1 := by omega
    rw [this, xk, List.length_append, e2, List.length_replicate]
    exact e
theorem cn_le (l : List Int) : ∀ k, cn l k ≤ k
  | 0 => Nat.le_refl _
  | k + 1 => by rw [cn]; have := cn_le l k; split <;> omega
def normX (l : List Int) : List Int := if checkF l = 0 then xk l (gi l l.length).length else []
theorem set_fill {x : List Int} {j r : Nat} {v : Int} (h : 0 < r) : (x ++ List.replicate j v ++ List.replicate r 0).set (x.length + j) v = x ++ List.replicate (j + 1) v ++ List.replicate (r - 1) 0 := by
  rw [List.set_append_right _ _ (by simp)]
  rw [show x.length + j - (x ++ List.replicate j v).length = 0 from by simp]
  obtain ⟨r, rfl⟩ : ∃ q, r = q + 1 := ⟨r - 1, by omega⟩
  rw [List.replicate_succ, List.set_cons_zero, show r + 1 - 1 = r from rfl]
  rw [List.append_assoc, List.append_assoc]
  congr 1
  rw [List.replicate_succ', List.append_assoc]
  rfl
theorem pos_iff {l : List Int} (h : checkF l = 0) {k : Nat} (hk : k < (gi l l.length).length) : (0 < nth l (nth (gi l l.length) k).1) ↔ 1 < (nth (gi l l.length) k).2 := by
  have h1 := (check_ok_nonneg h).2 k hk
  have h2 := (gi_inv l l.length).m1 k hk
  have h3 := (gi_inv l l.length).one k hk
  simp only [badI, Bool.and_eq_false_iff, Bool.or_eq_false_iff, decide_eq_false_iff_not] at h1
  constructor
  · intro hp
    rcases h1 with h1 | h1
    · omega
    · have := h1.1; omega
  · intro hp
    rcases Int.lt_or_le 0 (nth l (nth (gi l l.length) k).1) with z | z
    · exact z
    · have := h3 z; omega
/-! Join -/
def mx : Int → List Int → Int
  | a, [] => a
  | a, y :: r => mx (max a y) r
theorem mx_ge : ∀ (r : List Int) (a : Int), a ≤ mx a r
  | [], a => Int.le_refl a
  | y :: r, a => by rw [mx]; have := mx_ge r (max a y); omega
theorem mx_le : ∀ (r : List Int) (a b : Int), a ≤ b → (∀ y ∈ r, y ≤ b) → mx a r ≤ b
  | [], a, b, h, _ => h
  | y :: r, a, b, h, hr => by
    rw [mx]
    have := hr y (by simp)
    exact mx_le r (max a y) b (by omega) (fun z hz => hr z (by simp [hz]))
theorem mx_mem : ∀ (r : List Int) (a y : Int), y ∈ r → y ≤ mx a r
  | [], a, y, h => by simp at h
  | z :: r, a, y, h => by
    rw [mx]
    rcases List.mem_cons.1 h with rfl | h
    · have := mx_ge r (max a y); omega
    · exact mx_mem r (max a z) y h
def ixP : List Int → Int → Int
  | [], _ => -1
  | y :: r, i => if 0 < y then i else ixP r (i + 1)
def anyP (l : List Int) : Bool := l.any fun y => decide (0 < y)
theorem ixP_iff : ∀ (l : List Int) (i : Int), 0 ≤ i → (0 ≤ ixP l i ↔ anyP l = true)
  | [], i, h => by simp [ixP, anyP]
  | y :: r, i, h => by
    simp only [ixP]
    split
    · rename_i e; simp [e, h, anyP]
    · rename_i e; rw [ixP_iff r (i + 1) (by omega)]; simp [e, anyP]
def js (l : List Int) (f : Nat) (v : Int) : Nat → List Int
  | 0 => l
  | j + 1 => (js l f v j).set (f + j) v
theorem js_length (l : List Int) (f : Nat) (v : Int) : ∀ j, (js l f v j).length = l.length
  | 0 => rfl
  | j + 1 => by rw [js, List.length_set, js_length l f v j]
def midL (l : List Int) (f t : Int) : List Int := (l.drop f.toNat).take (t + 1 - f).toNat
def joinE (l : List Int) (f t : Int) : Int := if checkF l ≠ 0 then checkF l else if f < 0 ∨ t ≤ f ∨ (l.length : Int) ≤ t then 2 else if anyP (midL l f t) = true then 18 else if mx 0 l = 9223372036854775807 then 2 else 0
def joinX (l : List Int) (f t : Int) : List Int := if joinE l f t = 0 then js l f.toNat (mx 0 l + 1) (t + 1 - f).toNat else []
theorem joinX_bad {l : List Int} {f t e : Int} (h : joinE l f t = e) (he : e ≠ 0) : joinX l f t = [] := by rw [joinX, if_neg (by rw [h]; exact he)]
theorem anyP_mid {l : List Int} {f t : Int} (hf : 0 ≤ f) (ht : t < l.length) : anyP (midL l f t) = true ↔ ∃ i : Nat, f ≤ i ∧ (i : Int) ≤ t ∧ 0 < nth l i := by
  unfold anyP midL
  rw [List.any_eq_true]
  constructor
  · rintro ⟨y, hy, hp⟩
    obtain ⟨j, hj⟩ := List.mem_iff_getElem?.1 hy
    rw [List.getElem?_take] at hj
    split at hj
    · rw [List.getElem?_drop] at hj
      rename_i hlt
      obtain ⟨h1, h2⟩ := List.getElem?_eq_some_iff.1 hj
      have := nth_get h1
      rw [hj] at this
      injection this with this
      exact ⟨f.toNat + j, by omega, by omega, by rw [← this]; simpa using hp⟩
    · cases hj
  · rintro ⟨i, h1, h2, h3⟩
    refine ⟨nth l i, List.mem_iff_getElem?.2 ⟨i - f.toNat, ?_⟩, by simpa using h3⟩
    rw [List.getElem?_take, if_pos (by omega), List.getElem?_drop, show f.toNat + (i - f.toNat) = i from by omega, nth_get (by omega)]
theorem mx_head {l : List Int} (h : 0 < l.length) (h0 : 0 ≤ nth l 0) : mx (nth l 0) (l.drop 1) = mx 0 l := by
  cases l with
  | nil => simp at h
  | cons y r =>
    show mx y r = mx (max 0 y) r
    have : 0 ≤ y := h0
    rw [show max 0 y = y from by omega]
theorem wrap_next {m : Int} (h0 : 0 ≤ m) (h1 : m ≤ 9223372036854775807) : wrap64 (m + 1) = if m = 9223372036854775807 then -9223372036854775808 else m + 1 := by
  split
  · rename_i e; subst e; decide +kernel
  · exact IntWalk.wrap64_in _ (by omega)
theorem joinX_le (l : List Int) (f t : Int) : (joinX l f t).length ≤ l.length := by
  unfold joinX; split
  · rw [js_length]; exact Nat.le_refl _
  · simp
theorem partX_le (l : List Int) (x : Int) : (partX l x).length ≤ l.length := by
  unfold partX; split
  · rw [zs_length]; exact Nat.le_refl _
  · simp
theorem normX_le (l : List Int) : (normX l).length ≤ l.length := by
  unfold normX; split
  · rw [xk_all]; exact Nat.le_refl _
  · simp
theorem Rc.len2 {l : List Int} {rs rs2 : List FRow} (h : Rc l rs) (h2 : Rc l rs2) : rs.length = rs2.length := by
  unfold Rc at h h2
  split at h
  · rename_i e
    rw [if_pos e] at h2
    rw [h.len, h2.len]
  · rename_i e
    rw [if_neg e] at h2
    rw [h, h2]
theorem Rc.rk {l : List Int} {rs : List FRow} (h : Rc l rs) {k : Nat} (hk : k < rs.length) : checkF l = 0 ∧ Rk l l.length rs := by
  unfold Rc at h
  split at h
  · rename_i e; exact ⟨e, h⟩
  · rw [h] at hk; simp at hk
theorem Rc.le {l : List Int} {rs : List FRow} (h : Rc l rs) : rs.length ≤ l.length := by
  unfold Rc at h
  split at h
  · rw [h.len]; exact gi_le l _
  · rw [h]; simp
end Go.Proofs.Ytdiegelbpdknaaa
