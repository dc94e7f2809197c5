/-
  Zones as plain lists of shifts: what the program computes and what the reference computes, and that they agree where a zone is right.
-/
import Derived.Test.YtocegpfmoiokeaaMem
namespace Go.Proofs.Ytocegpfmoiokeaa
open Go Go.RowKit Eng
set_option linter.unusedVariables false
set_option linter.unusedSimpArgs false

abbrev Sh := Int × Int
def minI : Int := -9223372036854775808
def maxI : Int := 9223372036854775807
def encS (s : Sh) : List Value := [.int .i64 s.1, .int .i64 s.2]
theorem encS_len (s : Sh) : (encS s).length = 2 := rfl
def encP (s : Int × Int × Int) : List Value := [.int .i64 s.1, .int .i64 s.2.1, .int .i64 s.2.2]
theorem encP_len (s : Int × Int × Int) : (encP s).length = 3 := rfl
def okOff (n : Int) : Bool := decide (-840 ≤ n) && decide (n ≤ 840)
def near (p : Option Int) (a : Int) : Bool := match p with
  | some b => decide (a - b < 2880)
  | none => false
def chk : Option Int → List Sh → Int
  | _, [] => 0
  | p, s :: r => if (s.1 < 0 ∨ 52596000 ≤ s.1) ∨ near p s.1 = true then 13 else if okOff s.2 = true then chk (some s.1) r else 2
def checkZ (o : Int) (l : List Sh) : Int := if 256 < l.length then 4 else if okOff o = true then chk none l else 2
def pk (l : List Sh) (k : Nat) : Option Int := if 0 < k then some (nth l ((k : Int) - 1).toNat).1 else none
def offZ : Int → List Sh → Int → Int
  | o, [], _ => o
  | o, s :: r, u => if u < s.1 then o else offZ s.2 r u
def offR : Int → List Sh → Int → Int
  | o, [], _ => o
  | o, s :: r, u => if s.1 ≤ u then offR s.2 r u else offR o r u
def utcR : Int → List Sh → Int → Int
  | u, [], _ => u
  | u, s :: r, x => if u < s.1 then u else utcR (max s.1 (x - s.2)) r x
def spansF : Int → Int → List Sh → List (Int × Int × Int)
  | f, o, [] => [(f, maxI, o)]
  | f, o, s :: r => (f, s.1, o) :: spansF s.1 s.2 r
def utcS : Int → List (Int × Int × Int) → Int → Int
  | u, [], _ => u
  | _, s :: r, x => if max s.1 (x - s.2.2) < s.2.1 then max s.1 (x - s.2.2) else utcS (max s.1 (x - s.2.2)) r x
def timesS : Int → List (Int × Int × Int) → Int → Int
  | c, [], _ => c
  | c, s :: r, x => if s.1 ≤ x - s.2.2 ∧ x - s.2.2 < s.2.1 then timesS (c + 1) r x else timesS c r x
def before (r : List Sh) (y : Int) : Bool := match r with
  | [] => true
  | t :: _ => decide (y < t.1)
def timesR : Int → List Sh → Int → Int
  | c, [], _ => c
  | c, s :: r, x => if s.1 ≤ x - s.2 ∧ before r (x - s.2) = true then timesR (c + 1) r x else timesR c r x
def firstT (o : Int) (l : List Sh) (x : Int) : Int := match l with
  | [] => 1
  | s :: _ => if x - o < s.1 then 1 else 0
def timesR0 (o : Int) (l : List Sh) (x : Int) : Int := timesR (firstT o l x) l x

theorem spansF_length (l : List Sh) : ∀ f o, (spansF f o l).length = l.length + 1 := by
  induction l with
  | nil => intro f o; rfl
  | cons s r ih => intro f o; simp [spansF, ih]
theorem spans_snoc (s : Sh) : ∀ (p : List Sh) (f o : Int), (cellsOf encP (spansF f o p)).set (p.length * 3 + 1) (.int .i64 s.1) ++ encP (s.1, maxI, s.2) = cellsOf encP (spansF f o (p ++ [s])) := by
  intro p
  induction p with
  | nil => intro f o; rfl
  | cons q r ih =>
    intro f o
    have h1 : cellsOf encP (spansF f o (q :: r)) = encP (f, q.1, o) ++ cellsOf encP (spansF q.1 q.2 r) := rfl
    have h2 : cellsOf encP (spansF f o (q :: r ++ [s])) = encP (f, q.1, o) ++ cellsOf encP (spansF q.1 q.2 (r ++ [s])) := rfl
    rw [h1, h2, ← ih]
    rw [List.set_append_right (h := by simp [encP]; omega)]
    rw [List.append_assoc]
    congr 3
    simp [encP]; omega
/-- right zones -/
def Vd : Option Int → List Sh → Prop
  | _, [] => True
  | p, s :: r => 0 ≤ s.1 ∧ s.1 < 52596000 ∧ (∀ a, p = some a → a + 2880 ≤ s.1) ∧ -840 ≤ s.2 ∧ s.2 ≤ 840 ∧ Vd (some s.1) r
theorem Vd_of_chk : ∀ (l : List Sh) (p : Option Int), chk p l = 0 → Vd p l := by
  intro l
  induction l with
  | nil => intro p _; trivial
  | cons s r ih =>
    intro p h
    simp only [chk] at h
    split at h
    · omega
    · rename_i h1
      split at h
      · rename_i h2
        simp only [okOff, Bool.and_eq_true, decide_eq_true_eq] at h2
        refine ⟨by omega, by omega, fun a ha => ?_, h2.1, h2.2, ih _ h⟩
        subst ha
        simp only [near, decide_eq_true_eq] at h1
        omega
      · omega
theorem Vd_bd : ∀ (l : List Sh) (p : Option Int), Vd p l → ∀ k, (0 ≤ (nth l k).1 ∧ (nth l k).1 < 52596000) ∧ -840 ≤ (nth l k).2 ∧ (nth l k).2 ≤ 840 := by
  intro l
  induction l with
  | nil => intro p _ k; rw [nth_out (by simp)]; decide
  | cons s r ih =>
    intro p h k
    obtain ⟨h1, h2, _, h4, h5, h6⟩ := h
    cases k with
    | zero => exact ⟨⟨h1, h2⟩, h4, h5⟩
    | succ k => exact ih _ h6 k
theorem off_eq : ∀ (l : List Sh) (o u : Int) (p : Option Int), Vd p l → offZ o l u = offR o l u := by
  intro l
  induction l with
  | nil => intro o u p _; rfl
  | cons s r ih =>
    intro o u p h
    obtain ⟨h1, h2, _, h4, h5, h6⟩ := h
    simp only [offZ, offR]
    by_cases hu : u < s.1
    · rw [if_pos hu, if_neg (by omega)]
      have key : ∀ (r : List Sh) (a : Int), u < a → Vd (some a) r → offR o r u = o := by
        intro r
        induction r with
        | nil => intro a _ _; rfl
        | cons t r ih2 =>
          intro a ha hv
          obtain ⟨_, _, g3, _, _, g6⟩ := hv
          have := g3 a rfl
          simp only [offR]
          rw [if_neg (by omega)]
          exact ih2 t.1 (by omega) g6
      exact (key r s.1 hu h6).symm
    · rw [if_neg hu, if_pos (by omega)]
      exact ih _ _ _ h6
theorem offZ_bd : ∀ (l : List Sh) (o u : Int) (p : Option Int), Vd p l → -840 ≤ o → o ≤ 840 → -840 ≤ offZ o l u ∧ offZ o l u ≤ 840 := by
  intro l
  induction l with
  | nil => intro o u p _ a b; exact ⟨a, b⟩
  | cons s r ih =>
    intro o u p h a b
    obtain ⟨_, _, _, h4, h5, h6⟩ := h
    simp only [offZ]
    split
    · exact ⟨a, b⟩
    · exact ih _ _ _ h6 h4 h5
theorem utc_eq : ∀ (l : List Sh) (f o x u : Int) (p : Option Int), Vd p l → -4611686018427387904 ≤ x → x ≤ 4611686018427387904 → -840 ≤ o → o ≤ 840 → f ≤ 52596000 → utcS u (spansF f o l) x = utcR (max f (x - o)) l x := by
  intro l
  induction l with
  | nil =>
    intro f o x u p _ h1 h2 h3 h4 h5
    simp only [spansF, utcS, utcR, maxI]
    split <;> rfl
  | cons s r ih =>
    intro f o x u p h h1 h2 h3 h4 h5
    obtain ⟨g1, g2, _, g4, g5, g6⟩ := h
    simp only [spansF, utcS, utcR]
    split
    · rfl
    · exact ih _ _ _ _ _ g6 h1 h2 g4 g5 (by omega)
theorem times_eq : ∀ (l : List Sh) (f o x c : Int) (p : Option Int), Vd p l → -4611686018427387904 ≤ x → x ≤ 4611686018427387904 → -840 ≤ o → o ≤ 840 →
    timesS c (spansF f o l) x = timesR (if f ≤ x - o ∧ before l (x - o) = true then c + 1 else c) l x := by
  intro l
  induction l with
  | nil =>
    intro f o x c p _ h1 h2 h3 h4
    simp only [spansF, timesS, timesR, maxI]
    by_cases hf : f ≤ x - o
    · rw [if_pos ⟨hf, by omega⟩, if_pos ⟨hf, rfl⟩]
    · rw [if_neg (by omega), if_neg (by intro h; exact hf h.1)]
  | cons s r ih =>
    intro f o x c p h h1 h2 h3 h4
    obtain ⟨g1, g2, _, g4, g5, g6⟩ := h
    simp only [spansF, timesS]
    have hb : before (s :: r) (x - o) = decide (x - o < s.1) := rfl
    rw [hb]
    simp only [decide_eq_true_eq]
    by_cases hc : f ≤ x - o ∧ x - o < s.1
    · rw [if_pos hc, if_pos hc, ih _ _ _ _ _ g6 h1 h2 g4 g5]
      simp only [timesR]
      split <;> rfl
    · rw [if_neg hc, if_neg hc, ih _ _ _ _ _ g6 h1 h2 g4 g5]
      simp only [timesR]
      split <;> rfl
theorem times_eq0 (l : List Sh) (o x : Int) (p : Option Int) (h : Vd p l) (h1 : -4611686018427387904 ≤ x) (h2 : x ≤ 4611686018427387904) (h3 : -840 ≤ o) (h4 : o ≤ 840) : timesS 0 (spansF minI o l) x = timesR0 o l x := by
  rw [times_eq l minI o x 0 p h h1 h2 h3 h4]
  unfold timesR0
  congr 1
  cases l with
  | nil => rw [if_pos ⟨by unfold minI; omega, rfl⟩]; rfl
  | cons s r =>
    have hb : before (s :: r) (x - o) = decide (x - o < s.1) := rfl
    rw [hb]
    by_cases hc : x - o < s.1
    · rw [if_pos ⟨by unfold minI; omega, by simpa using hc⟩]; simp [firstT, hc]
    · rw [if_neg (by intro h; exact hc (by simpa using h.2))]; simp [firstT, hc]
theorem utc_eq0 (l : List Sh) (o x : Int) (p : Option Int) (h : Vd p l) (h1 : -4611686018427387904 ≤ x) (h2 : x ≤ 4611686018427387904) (h3 : -840 ≤ o) (h4 : o ≤ 840) : utcS 0 (spansF minI o l) x = utcR (x - o) l x := by
  rw [utc_eq l minI o x 0 p h h1 h2 h3 h4 (by unfold minI; omega)]
  congr 1
  unfold minI; omega
theorem spans_bd : ∀ (l : List Sh) (f o : Int) (p : Option Int), Vd p l → -840 ≤ o → o ≤ 840 → ∀ k, -840 ≤ (nth (spansF f o l) k).2.2 ∧ (nth (spansF f o l) k).2.2 ≤ 840 := by
  intro l
  induction l with
  | nil =>
    intro f o p _ h3 h4 k
    cases k with
    | zero => exact ⟨h3, h4⟩
    | succ k => rw [nth_out (by simp [spansF])]; decide
  | cons s r ih =>
    intro f o p h h3 h4 k
    obtain ⟨_, _, _, g4, g5, g6⟩ := h
    cases k with
    | zero => exact ⟨h3, h4⟩
    | succ k => exact ih _ _ _ g6 g4 g5 k
theorem timesR_bd : ∀ (l : List Sh) (c x : Int), 0 ≤ c → c ≤ timesR c l x ∧ timesR c l x ≤ c + l.length := by
  intro l
  induction l with
  | nil => intro c x h; simp [timesR]
  | cons s r ih =>
    intro c x h
    rw [show timesR c (s :: r) x = if s.1 ≤ x - s.2 ∧ before r (x - s.2) = true then timesR (c + 1) r x else timesR c r x from rfl]
    split
    · have := ih (c + 1) x (by omega); simp; omega
    · have := ih c x h; simp; omega
end Go.Proofs.Ytocegpfmoiokeaa
