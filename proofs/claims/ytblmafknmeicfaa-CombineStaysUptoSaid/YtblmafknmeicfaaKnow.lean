/-
  Rules, places, stays in plain Lean. Of no program.
-/
import Derived.Test.YtblmafknmeicfaaPairs
namespace Go.Proofs.Ytblmafknmeicfaa
open Go Go.RowKit Eng
set_option linter.unusedVariables false
abbrev Fa := ByteArray × ByteArray × ByteArray × ByteArray × ByteArray × Bool × Int × Int × Int
abbrev Pt := Int × Int × Int × Int
abbrev Ru := Int × (Int × (SliceV Unit) × Int × Int × (Int × Int × Int) × (SliceV Unit)) × (SliceV Int) × Int × Int × Int × Int × (SliceV Unit)
abbrev Sh := Int × Int
abbrev Ai := ByteArray × ByteArray × ByteArray × (Int × (SliceV Sh))
abbrev Wa := (ByteArray × Int × Int × ByteArray × ByteArray × Int × Int) × ByteArray
theorem drop_nthK {α : Type} [Inhabited α] {l : List α} {i : Nat} (h : i < l.length) : l.drop i = nth l i :: l.drop (i + 1) := by
  rw [List.drop_eq_getElem_cons h]
  unfold nth
  rw [List.getD_eq_getElem?_getD, List.getElem?_eq_getElem h]; rfl
def ru0 : Ru := (0, (0, ⟨none, 0, []⟩, 0, 0, (0, 0, 0), ⟨none, 0, []⟩), ⟨none, 0, []⟩, 0, 0, 0, 0, ⟨none, 0, []⟩)
def ruleE : List Ru → Int → Ru × Bool
  | [], _ => (ru0, false)
  | r :: q, n => if r.1 = n then (r, true) else ruleE q n
theorem ruleE_drop {l : List Ru} {i : Nat} (h : i < l.length) (n : Int) : ruleE (l.drop i) n = if (nth l i).1 = n then (nth l i, true) else ruleE (l.drop (i + 1)) n := by
  rw [drop_nthK h]; rfl
theorem ruleE_end {l : List Ru} {i : Nat} (h : l.length ≤ i) (n : Int) : ruleE (l.drop i) n = (ru0, false) := by
  rw [List.drop_eq_nil_of_le h]; rfl
theorem ruleE_mem (n : Int) : ∀ l : List Ru, (ruleE l n).1 ∈ l ∨ (ruleE l n).1 = ru0
  | [] => .inr rfl
  | r :: q => by
    unfold ruleE
    split
    · exact .inl (List.mem_cons_self)
    · exact (ruleE_mem n q).imp (List.mem_cons_of_mem _) id
def fareP (fl : List Fa) (x : Pt) : Fa := nth fl x.2.2.1.toNat
def ruleX (fl : List Fa) (rl : List Ru) (x : Pt) : Ru := (ruleE rl (fareP fl x).2.2.2.2.2.2.2.1).1
/-- does a list hold a number -/
def conB (l : List Int) (x : Int) : Bool := !(allK (fun j => decide (nth l j ≠ x)) l.length)
theorem conB_yes {l : List Int} {x : Int} {k : Nat} (hk : k < l.length) (h : nth l k = x) : conB l x = true := by
  rw [conB, allK_not hk (by simp [h])]; rfl
theorem conB_no {l : List Int} {x : Int} (h : allK (fun j => decide (nth l j ≠ x)) l.length = true) : conB l x = false := by rw [conB, h]; rfl
def alB (a b : Ru) : Bool := decide ((a.2.2.1.l.length : Int) = 0) || conB a.2.2.1.l b.1
def mixB (a b : Ru) : Bool := alB a b && alB b a
def mixX (fl : List Fa) (rl : List Ru) (pl : List Pt) (i j : Nat) : Bool := mixB (ruleX fl rl (nth pl i)) (ruleX fl rl (nth pl j))
def mixedE (pr : Bool) (n : Nat) (mx : Nat → Nat → Bool) : Int := if pr = true then (if allK (fun i => allK (fun j => mx i j) i) n = true then 0 else 23) else 19
theorem mixed_bad {pr : Bool} {n i j : Nat} {mx : Nat → Nat → Bool} (hp : pr = true) (hi : i < n) (hj : j < i) (h : mx i j = false) : mixedE pr n mx = 23 := by
  rw [mixedE, if_pos hp, if_neg]
  intro q
  have := (allK_iff _).1 ((allK_iff _).1 q i hi) j hj
  rw [h] at this; cases this
theorem mixed_ok {pr : Bool} {n : Nat} {mx : Nat → Nat → Bool} (hp : pr = true) (h : allK (fun i => allK (fun j => mx i j) i) n = true) : mixedE pr n mx = 0 := by rw [mixedE, if_pos hp, if_pos h]
theorem mixed_un {pr : Bool} {n : Nat} {mx : Nat → Nat → Bool} (hp : pr = false) : mixedE pr n mx = 19 := by rw [mixedE, if_neg (by rw [hp]; simp)]
def ai0 : Ai := (⟨#[]⟩, ⟨#[]⟩, ⟨#[]⟩, 0, ⟨none, 0, []⟩)
def findE : List Ai → ByteArray → Ai × Bool
  | [], _ => (ai0, false)
  | a :: q, c => if (a.1.toList == c.toList) = true then (a, true) else findE q c
theorem findE_drop {l : List Ai} {i : Nat} (h : i < l.length) (c : ByteArray) : findE (l.drop i) c = if ((nth l i).1.toList == c.toList) = true then (nth l i, true) else findE (l.drop (i + 1)) c := by
  rw [drop_nthK h]; rfl
theorem findE_end {l : List Ai} {i : Nat} (h : l.length ≤ i) (c : ByteArray) : findE (l.drop i) c = (ai0, false) := by
  rw [List.drop_eq_nil_of_le h]; rfl
theorem findE_mem (c : ByteArray) : ∀ l : List Ai, (findE l c).1 ∈ l ∨ (findE l c).1 = ai0
  | [] => .inr rfl
  | r :: q => by
    unfold findE
    split
    · exact .inl (List.mem_cons_self)
    · exact (findE_mem c q).imp (List.mem_cons_of_mem _) id
def offE (u : Int) : Int → List Sh → Int
  | a, [] => a
  | a, s :: q => if u < s.1 then a else offE u s.2 q
theorem offE_drop {u a : Int} {l : List Sh} {i : Nat} (h : i < l.length) : offE u a (l.drop i) = if u < (nth l i).1 then a else offE u (nth l i).2 (l.drop (i + 1)) := by
  rw [drop_nthK h]; rfl
theorem offE_end {u a : Int} {l : List Sh} {i : Nat} (h : l.length ≤ i) : offE u a (l.drop i) = a := by
  rw [List.drop_eq_nil_of_le h]; rfl
/-- the day of a local minute -/
def splitD (u : Int) : Int := if u.tmod 1440 < 0 then u.tdiv 1440 - 1 else u.tdiv 1440
/-- the departure day of a component -/
def depA (al : List Ai) (wl : List Wa) (x : Pt) : Ai × Bool := findE al (nth wl x.1.toNat).1.2.2.2.1
def depD (al : List Ai) (wl : List Wa) (x : Pt) : Int := splitD ((nth wl x.1.toNat).1.2.2.2.2.2.1 + offE (nth wl x.1.toNat).1.2.2.2.2.2.1 (depA al wl x).1.2.2.2.1 (depA al wl x).1.2.2.2.2.l)
def stayE (r : Ru) (o b : Int) : Int := if ((o < 0 ∨ 36525 ≤ o) ∨ b < 0) ∨ 36525 ≤ b then 12 else if b - o < r.2.2.2.1 ∨ (0 < r.2.2.2.2.1 ∧ r.2.2.2.2.1 < b - o) then 24 else 0
def firstZ (f : Nat → Int) : Nat → Int
  | 0 => 0
  | k + 1 => if firstZ f k = 0 then f k else firstZ f k
theorem firstZ_stay {f : Nat → Int} {k : Nat} (h : firstZ f k ≠ 0) : ∀ d, firstZ f (k + d) = firstZ f k
  | 0 => rfl
  | d + 1 => by rw [← Nat.add_assoc, firstZ, firstZ_stay h d, if_neg h]
theorem firstZ_at {f : Nat → Int} {k n : Nat} (h : firstZ f k = 0) (hk : k < n) (he : f k ≠ 0) : firstZ f n = f k := by
  have e : firstZ f (k + 1) = f k := by rw [firstZ, if_pos h]
  have := firstZ_stay (f := f) (k := k + 1) (by rw [e]; exact he) (n - (k + 1))
  rwa [show k + 1 + (n - (k + 1)) = n by omega, e] at this
theorem firstZ_next {f : Nat → Int} {k : Nat} (h : firstZ f k = 0) (he : f k = 0) : firstZ f (k + 1) = 0 := by rw [firstZ, if_pos h, he]
/-- the stay of one pair -/
def pairS (fl : List Fa) (rl : List Ru) (al : List Ai) (wl : List Wa) (pl : List Pt) (x : Nat × Nat) : Int :=
  if (depA al wl (nth pl x.1)).2 = false ∨ (depA al wl (nth pl x.2)).2 = false then 14
  else if stayE (ruleX fl rl (nth pl x.1)) (depD al wl (nth pl x.1)) (depD al wl (nth pl x.2)) ≠ 0 then stayE (ruleX fl rl (nth pl x.1)) (depD al wl (nth pl x.1)) (depD al wl (nth pl x.2))
  else stayE (ruleX fl rl (nth pl x.2)) (depD al wl (nth pl x.1)) (depD al wl (nth pl x.2))
def fromB (wn : Nat) (pl : List Pt) (i : Nat) : Bool := decide (0 ≤ (nth pl i).1) && decide ((nth pl i).1 < wn)
theorem fromB_iff {wn : Nat} {pl : List Pt} {i : Nat} : fromB wn pl i = true ↔ 0 ≤ (nth pl i).1 ∧ (nth pl i).1 < wn := by rw [fromB, Bool.and_eq_true, decide_eq_true_iff, decide_eq_true_iff]
theorem fromB_not {wn : Nat} {pl : List Pt} {i : Nat} : fromB wn pl i = false ↔ ¬ (0 ≤ (nth pl i).1 ∧ (nth pl i).1 < wn) := by rw [← fromB_iff]; cases fromB wn pl i <;> simp
def staysE (wn : Nat) (rs : Int × List (Nat × Nat)) (fl : List Fa) (rl : List Ru) (al : List Ai) (wl : List Wa) (pl : List Pt) : Int :=
  if allK (fromB wn pl) pl.length = true then (if rs.1 ≠ 0 then rs.1 else firstZ (fun k => pairS fl rl al wl pl (nth rs.2 k)) rs.2.length) else 2
/-- the components of a journey, one behind the other -/
def covE (pl : List Pt) : Nat → Option Int
  | 0 => some 0
  | i + 1 => match covE pl i with
    | some a => if (nth pl i).1 = a ∧ (nth pl i).1 < (nth pl i).2.1 then some (nth pl i).2.1 else none
    | none => none
def covB (n : Int) (pl : List Pt) : Bool := match covE pl pl.length with
  | some a => decide (0 < (pl.length : Int)) && decide (a = n)
  | none => false
theorem covE_none {pl : List Pt} {i : Nat} (h : covE pl i = none) : ∀ d, covE pl (i + d) = none
  | 0 => h
  | d + 1 => by rw [← Nat.add_assoc, covE, covE_none h d]
theorem covE_next {pl : List Pt} {i : Nat} {a : Int} (h : covE pl i = some a) (h2 : (nth pl i).1 = a ∧ (nth pl i).1 < (nth pl i).2.1) : covE pl (i + 1) = some (nth pl i).2.1 := by
  rw [covE, h]; simp only []; rw [if_pos h2]
theorem covB_bad {pl : List Pt} {i : Nat} {a n : Int} (h : covE pl i = some a) (hi : i < pl.length) (h2 : ¬ ((nth pl i).1 = a ∧ (nth pl i).1 < (nth pl i).2.1)) : covB n pl = false := by
  have e : covE pl (i + 1) = none := by rw [covE, h]; simp only []; rw [if_neg h2]
  have := covE_none e (pl.length - (i + 1))
  rw [show i + 1 + (pl.length - (i + 1)) = pl.length by omega] at this
  rw [covB, this]
theorem covB_all {pl : List Pt} {a n : Int} (h : covE pl pl.length = some a) : covB n pl = (decide (0 < (pl.length : Int)) && decide (a = n)) := by rw [covB, h]
end Go.Proofs.Ytblmafknmeicfaa
