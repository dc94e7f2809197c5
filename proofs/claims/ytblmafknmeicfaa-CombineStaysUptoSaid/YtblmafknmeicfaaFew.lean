/-
  What the reference's checks compute where it matters; lists of faults. Plain Lean.
-/
import Derived.Test.YtblmafknmeicfaaMTypes
import Derived.Test.YtblmafknmeicfaaText
import Derived.Test.YtblmafknmeicfaaKnow
namespace Go.Proofs.Ytblmafknmeicfaa
open Go Go.RowKit Eng
set_option linter.unusedVariables false
set_option linter.unusedSimpArgs false
theorem codeB_size {s : ByteArray} {a b : Int} (h : codeB s a b = true) : a ≤ (s.size : Int) ∧ (s.size : Int) ≤ b := by
  simp only [codeB, Bool.and_eq_true, decide_eq_true_eq] at h
  exact h.2
def carB (s : ByteArray) : Bool := codeB s 2 2 && (upB (byteI s 0) || upB (byteI s 1))
def kperB (k : Int) : Bool := decide (k = 5) || decide (k = 6)
def kcodB (k : Int) : Bool := (decide (k = 11) || decide (k = 13)) || decide (k = 14)
def klstB (k : Int) : Bool := (decide (k = 2) || decide (k = 3)) || decide (k = 4)
def knumI (k : Int) : Int := if k = 8 ∨ k = 12 then 2 else if (k = 7 ∨ k = 9) ∨ k = 10 then 1 else 0
def codB (k : Int) (s : ByteArray) : Bool := if k = 11 then carB s else if k = 13 then letB s 3 else codeB s 3 3
def hasB (l : List ByteArray) (n : Nat) (s : ByteArray) : Bool := !(allK (fun j => !((nth l j).toList == s.toList)) n)
/-- faults -/
abbrev NF := Int × ByteArray
def encNF (x : NF) : List Value := [.int .i64 x.1, .string x.2]
theorem encNF_len (x : NF) : (encNF x).length = 2 := rfl
/-- so many elements, at most b -/
structure LnB {α : Type} (L : List α) (n b : Nat) : Prop where
  len : n = L.length
  le : n ≤ b
theorem LnB.nil {α : Type} : LnB ([] : List α) 0 0 := ⟨rfl, Nat.le_refl _⟩
theorem LnB.snoc {α : Type} {L : List α} {n b : Nat} {x : α} (h : LnB L n b) : LnB (L ++ [x]) (n + 1) (b + 1) := ⟨by rw [List.length_append, h.len]; rfl, by have := h.le; omega⟩
theorem LnB.app {α : Type} {L M : List α} {n m b c : Nat} (h : LnB L n b) (g : LnB M m c) : LnB (L ++ M) (n + m) (b + c) := ⟨by rw [List.length_append, h.len, g.len], by have := h.le; have := g.le; omega⟩
theorem LnB.mono {α : Type} {L : List α} {n b c : Nat} (h : LnB L n b) (hc : b ≤ c) : LnB L n c := ⟨h.len, Nat.le_trans h.le hc⟩
/-- .. with short texts -/
structure FLs (L : List NF) (n b : Nat) : Prop where
  ln : LnB L n b
  sz : ∀ y ∈ L, y.2.size ≤ 100
theorem FLs.nil : FLs [] 0 0 := ⟨LnB.nil, by simp⟩
theorem FLs.snoc {L : List NF} {n b : Nat} {e : Int} {s : ByteArray} (h : FLs L n b) (hs : s.size ≤ 100) : FLs (L ++ [(e, s)]) (n + 1) (b + 1) := ⟨h.ln.snoc, fun y hy => by
  rcases List.mem_append.1 hy with hy | hy
  · exact h.sz y hy
  · obtain rfl := List.mem_singleton.1 hy; exact hs⟩
theorem FLs.app {L M : List NF} {n m b c : Nat} (h : FLs L n b) (g : FLs M m c) : FLs (L ++ M) (n + m) (b + c) := ⟨h.ln.app g.ln, fun y hy => (List.mem_append.1 hy).elim (h.sz y) (g.sz y)⟩
theorem FLs.mono {L : List NF} {n b c : Nat} (h : FLs L n b) (hc : b ≤ c) : FLs L n c := ⟨h.ln.mono hc, h.sz⟩
theorem at_sz {p : ByteArray} {z : Int} (hp : p.size ≤ 20) : (p ++ decS z).size ≤ 100 := by
  have := decS_size z
  rw [ByteArray.size_append]; omega
theorem at_max {p : ByteArray} {z : Int} (hp : p.size ≤ 20) : p.size + (decS z).size ≤ 9223372036854775807 := by
  have := decS_size z; omega
/-- the first link -/
abbrev Lk := ByteArray × ByteArray
def lnkF (l : List Lk) (f t : ByteArray) : Nat → Nat → Int
  | 0, _ => -1
  | n + 1, k => if (nth l k).1.toList = f.toList ∧ (nth l k).2.toList = t.toList then (k : Int) else lnkF l f t n (k + 1)
/-- a city that is known -/
def knB (al : List Ai) (n : Nat) (s : ByteArray) : Bool := !(allK (fun j => !((nth al j).2.1.toList == s.toList)) n)
/-- a zone that is right -/
def ofB (n : Int) : Bool := decide (-840 ≤ n) && decide (n ≤ 840)
structure ZnOk (o : Int) (l : List Sh) (n : Nat) : Prop where
  o : -840 ≤ o ∧ o ≤ 840
  at_ : ∀ i, i < n → 0 ≤ (nth l i).1 ∧ (nth l i).1 < 52596000
  of_ : ∀ i, i < n → -840 ≤ (nth l i).2 ∧ (nth l i).2 ≤ 840
  up : ∀ i, i + 1 < n → (nth l i).1 + 2880 ≤ (nth l (i + 1)).1
theorem ZnOk.next {o : Int} {l : List Sh} {k : Nat} (h : ZnOk o l k) (h1 : 0 ≤ (nth l k).1 ∧ (nth l k).1 < 52596000) (h2 : -840 ≤ (nth l k).2 ∧ (nth l k).2 ≤ 840) (h3 : 0 < k → (nth l (k - 1)).1 + 2880 ≤ (nth l k).1) : ZnOk o l (k + 1) := by
  refine ⟨h.o, fun i hi => ?_, fun i hi => ?_, fun i hi => ?_⟩
  · by_cases e : i = k
    · subst e; exact h1
    · exact h.at_ i (by omega)
  · by_cases e : i = k
    · subst e; exact h2
    · exact h.of_ i (by omega)
  · by_cases e : i + 1 = k
    · subst e; exact h3 (by omega)
    · exact h.up i (by omega)
/-- .. which are none only where p holds -/
structure LnZ {α : Type} (L : List α) (n b : Nat) (p : Prop) : Prop where
  ln : LnB L n b
  z : n = 0 → p
theorem LnZ.snoc {α : Type} {L : List α} {n b : Nat} {x : α} {p : Prop} (h : LnZ L n b p) : LnZ (L ++ [x]) (n + 1) (b + 1) p := ⟨h.ln.snoc, fun q => absurd q (Nat.succ_ne_zero _)⟩
abbrev ZA (al : List Ai) (i : Nat) : Prop := ZnOk (nth al i).2.2.2.1 (nth al i).2.2.2.2.l (nth al i).2.2.2.2.l.length
theorem Half.below {α : Type} [Inhabited α] {sz : Nat} {enc : α → List Value} {G : α → Prop} {w w' : World} {x : SliceV Unit} (h : Half sz enc (fun _ => G) w x) (hb : Below w.heap.size w w') : Half sz enc (fun _ => G) w' x := by
  obtain ⟨l, h1, h2, h3⟩ := h
  exact ⟨l, h1, h2.below hb, h3⟩
theorem strBelow {w w' : World} {x : SliceV Unit} (h : StrG w x) (hb : Below w.heap.size w w') : StrG w' x := Half.below (G := fun s : ByteArray => s.size ≤ maxLen) h hb
theorem condBelow {w w' : World} {ao : Option Addr} {n cap : Nat} (h : CondSl w ao n cap) (hb : Below w.heap.size w w') : CondSl w' ao n cap := by
  induction h with
  | mk l hl hs hin ht ih => exact .mk l hl (hs.below hb) ih (fun i hi => strBelow (ht i hi) hb)
/-- a rule that can be walked -/
structure RuG (w : World) (x : Ru) : Prop where
  c : CondG w x.2.1.2.1
  t : StrG w x.2.1.2.2.2.2.2
  i : SliceIn w 1 x.2.2.1.ao x.2.2.1.l.length x.2.2.1.cap (rowsF encI x.2.2.1.l)
  im : x.2.2.1.l.length ≤ 1048576
  p : Half 2 enc137 (fun _ y => y.1.size ≤ maxLen) w x.2.2.2.2.2.2.2
  pm : x.2.2.2.2.2.2.2.l.length ≤ 1048576
theorem RuG.below {w w' : World} {x : Ru} (h : RuG w x) (hb : Below w.heap.size w w') : RuG w' x := ⟨condBelow h.c hb, strBelow h.t hb, h.i.below hb, h.im, Half.below (G := fun y : ByteArray × Int => y.1.size ≤ maxLen) h.p hb, h.pm⟩
structure RtG (w : World) (x : Int × SliceV Lk × Int) : Prop where
  s : SliceIn w 2 x.2.1.ao x.2.1.l.length x.2.1.cap (rowsF enc127 x.2.1.l)
  z : ∀ y ∈ x.2.1.l, y.1.size ≤ maxLen ∧ y.2.size ≤ maxLen
theorem RtG.below {w w' : World} {x : Int × SliceV Lk × Int} (h : RtG w x) (hb : Below w.heap.size w w') : RtG w' x := ⟨h.s.below hb, h.z⟩
def FaG (f : Fa) : Prop := f.1.size ≤ 9223372036854775807 ∧ f.2.2.2.1.size ≤ 9223372036854775807 ∧ f.2.2.2.2.1.size ≤ 9223372036854775807
structure AiG (w : World) (a : Ai) : Prop where
  s1 : a.1.size ≤ 9223372036854775807
  s2 : a.2.1.size ≤ 9223372036854775807
  s3 : a.2.2.1.size ≤ 9223372036854775807
  sh : SliceIn w 2 a.2.2.2.2.ao a.2.2.2.2.l.length a.2.2.2.2.cap (rowsF enc133 a.2.2.2.2.l)
theorem AiG.below {w w' : World} {a : Ai} (h : AiG w a) (hb : Below w.heap.size w w') : AiG w' a := ⟨h.s1, h.s2, h.s3, h.sh.below hb⟩
theorem ofB_iff {n : Int} : ofB n = true ↔ -840 ≤ n ∧ n ≤ 840 := by rw [ofB, Bool.and_eq_true, decide_eq_true_iff, decide_eq_true_iff]
def usB (n : Int) : Bool := decide (1 ≤ n) && decide (n ≤ 20000)
end Go.Proofs.Ytblmafknmeicfaa
