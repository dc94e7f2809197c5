/-
  Links: what senders and receivers compute, in plain Lean.
-/
import Derived.Test.YtmnhdiblkjmmfaaObj
namespace Go.Proofs.Ytmnhdiblkjmmfaa
open Go Go.RowKit Eng
set_option linter.unusedVariables false
set_option linter.unusedSimpArgs false
abbrev Msg := Int × Int × Int × ByteArray
def dataM (seq : Int) (body : ByteArray) : Msg := (1, seq, 0, body)
def ackM (n : Int) : Msg := (2, 0, n, ⟨#[]⟩)
def zeroM : Msg := (0, 0, 0, ⟨#[]⟩)
/-- the messages that are kept: of all bodies, those behind the first d -/
def keptL (B : List ByteArray) (d : Nat) : List Msg := tab (B.length - d) fun i => dataM (((d + i : Nat) : Int) + 1) (nth B (d + i))
theorem keptL_len (B : List ByteArray) (d : Nat) : (keptL B d).length = B.length - d := tab_len _ _
theorem nth_append_left {α : Type} [Inhabited α] {l k : List α} {i : Nat} (h : i < l.length) : nth (l ++ k) i = nth l i := by
  unfold nth
  simp only [List.getD_eq_getElem?_getD, List.getElem?_append_left h]
theorem nth_append_len {α : Type} [Inhabited α] {l : List α} {x : α} : nth (l ++ [x]) l.length = x := by
  unfold nth
  simp [List.getD_eq_getElem?_getD]
theorem keptL_snoc {B : List ByteArray} {d : Nat} (h : d ≤ B.length) (b : ByteArray) : keptL (B ++ [b]) d = keptL B d ++ [dataM ((B.length : Int) + 1) b] := by
  unfold keptL
  rw [show (B ++ [b]).length - d = (B.length - d) + 1 from by simp; omega, tab_succ]
  congr 1
  · refine tab_congr fun j hj => ?_
    rw [nth_append_left (by omega)]
  · rw [show d + (B.length - d) = B.length from by omega, nth_append_len]
theorem keptL_drop {B : List ByteArray} {d k : Nat} (h : d + k ≤ B.length) : (keptL B d).drop k = keptL B (d + k) := by
  refine List.ext_getElem? fun i => ?_
  rw [List.getElem?_drop]
  unfold keptL
  rcases Nat.lt_or_ge i (B.length - (d + k)) with q | q
  · rw [tab_get _ _ (by omega), tab_get _ _ q, show d + (k + i) = d + k + i from by omega]
  · rw [List.getElem?_eq_none (by rw [tab_len]; omega), List.getElem?_eq_none (by rw [tab_len]; omega)]
def sendE (room : Int) (B : List ByteArray) (d : Nat) (b : ByteArray) : Int := if 65536 < b.size then 4 else if room ≤ ((B.length - d : Nat) : Int) then 9 else 0
def sendB (room : Int) (B : List ByteArray) (d : Nat) (b : ByteArray) : List ByteArray := if sendE room B d b = 0 then B ++ [b] else B
def sendM (room : Int) (B : List ByteArray) (d : Nat) (b : ByteArray) : Msg := if sendE room B d b = 0 then dataM ((B.length : Int) + 1) b else zeroM
def ackE (B : List ByteArray) (d : Nat) (m : Msg) : Int := if m.1 ≠ 2 then 8 else if m.2.2.1 < 0 ∨ (B.length : Int) < m.2.2.1 then 2 else if m.2.2.1 < (d : Int) then 30 else 0
def ackD (B : List ByteArray) (d : Nat) (m : Msg) : Nat := if ackE B d m = 0 then m.2.2.1.toNat else d
theorem sendB_le {room : Int} {B : List ByteArray} {d : Nat} {b : ByteArray} : B.length ≤ (sendB room B d b).length ∧ (sendB room B d b).length ≤ B.length + 1 := by
  unfold sendB
  split <;> simp
theorem ackD_le {B : List ByteArray} {d : Nat} {m : Msg} (h : d ≤ B.length) : ackD B d m ≤ B.length := by
  unfold ackD
  split
  · rename_i q
    unfold ackE at q
    split at q
    · cases q
    · split at q
      · cases q
      · omega
  · exact h
def recvE (B : List ByteArray) (m : Msg) : Int := if m.1 ≠ 1 then 8 else if m.2.1 < 1 then 2 else if m.2.1 ≤ B.length then 30 else if (B.length : Int) + 1 < m.2.1 then 29 else 0
def recvB (B : List ByteArray) (m : Msg) : List ByteArray := if recvE B m = 0 then B ++ [m.2.2.2] else B
def recvM (B : List ByteArray) (m : Msg) : Msg := if recvE B m = 8 ∨ recvE B m = 2 then zeroM else ackM ((recvB B m).length : Int)
/-- how many bodies 'Got' leaves out; all, if there are none to tell -/
def gotK (B : List ByteArray) (f : Int) : Nat := if (B.length : Int) < f then B.length else (max 1 f - 1).toNat
def gotL (B : List ByteArray) (f : Int) : List ByteArray := B.drop (gotK B f)
theorem gotK_le (B : List ByteArray) (f : Int) : gotK B f ≤ B.length := by
  unfold gotK
  split
  · exact Nat.le_refl _
  · omega
theorem recvB_le {B : List ByteArray} {m : Msg} : B.length ≤ (recvB B m).length ∧ (recvB B m).length ≤ B.length + 1 := by
  unfold recvB
  split <;> simp
def gA (B : List ByteArray) (ra : Option Addr) (rc : Nat) (f : Int) : Option Addr := if f < 1 then ra else if (B.length : Int) < f then none else subAo ra rc (f - 1).toNat 1
def gN (B : List ByteArray) (f : Int) : Nat := if f < 1 then B.length else if (B.length : Int) < f then 0 else B.length - (f - 1).toNat
def gC (B : List ByteArray) (rc : Nat) (f : Int) : Nat := if f < 1 then rc else if (B.length : Int) < f then 0 else rc - (f - 1).toNat
theorem gN_eq (B : List ByteArray) (f : Int) : gN B f = B.length - gotK B f := by
  unfold gN gotK
  (repeat' split) <;> omega
theorem gotL_len (B : List ByteArray) (f : Int) : (gotL B f).length = B.length - gotK B f := by simp [gotL]
theorem got_in {w : World} {B : List ByteArray} {ra : Option Addr} {rc : Nat} (h : SliceIn w 1 ra B.length rc (rowsF encStr B)) (f : Int) : SliceIn w 1 (gA B ra rc f) (gN B f) (gC B rc f) (rowsF encStr (gotL B f)) := by
  unfold gA gN gC gotL gotK
  by_cases h1 : f < 1
  · rw [if_pos h1, if_pos h1, if_pos h1]
    by_cases h2 : (B.length : Int) < f
    · omega
    · rw [if_neg h2, show (max 1 f - 1).toNat = 0 from by omega, List.drop_zero]; exact h
  · rw [if_neg h1, if_neg h1, if_neg h1]
    by_cases h2 : (B.length : Int) < f
    · rw [if_pos h2, if_pos h2, if_pos h2]
      exact ⟨Nat.le_refl _, by simp [maxLen], .inl rfl, fun i hi => absurd hi (by omega)⟩
    · rw [if_neg h2, if_neg h2, if_neg h2, if_neg h2]
      have h3 := h.subrows rfl (f - 1).toNat B.length (by omega) (Nat.le_refl _)
      rw [List.take_of_length_le (by simp)] at h3
      rw [show (max 1 f - 1).toNat = (f - 1).toNat from by omega]
      exact h3
/-! ### what goes between them -/
def IsData (B : List ByteArray) (m : Msg) : Prop := ∃ j, j < B.length ∧ m = dataM (((j : Nat) : Int) + 1) (nth B j)
def IsAck (r : Nat) (m : Msg) : Prop := ∃ a, a ≤ r ∧ m = ackM ((a : Nat) : Int)
def Pre (R B : List ByteArray) : Prop := R.length ≤ B.length ∧ R = B.take R.length
theorem IsData.snoc {B : List ByteArray} {m : Msg} (h : IsData B m) (x : ByteArray) : IsData (B ++ [x]) m := by
  obtain ⟨j, h1, h2⟩ := h
  exact ⟨j, by simp; omega, by rw [nth_append_left h1]; exact h2⟩
theorem isData_new (B : List ByteArray) (x : ByteArray) : IsData (B ++ [x]) (dataM ((B.length : Int) + 1) x) := ⟨B.length, by simp, by rw [nth_append_len]⟩
theorem isData_kept {B : List ByteArray} {d : Nat} {m : Msg} (h : m ∈ keptL B d) : IsData B m := by
  unfold keptL tab at h
  obtain ⟨i, hi, rfl⟩ := List.mem_map.1 h
  simp at hi
  exact ⟨d + i, by omega, rfl⟩
theorem IsAck.mono {r s : Nat} {m : Msg} (h : IsAck r m) (hs : r ≤ s) : IsAck s m := by
  obtain ⟨a, h1, h2⟩ := h
  exact ⟨a, by omega, h2⟩
theorem Pre.snoc {R B : List ByteArray} (h : Pre R B) (x : ByteArray) : Pre R (B ++ [x]) := by
  refine ⟨by have := h.1; simp; omega, ?_⟩
  rw [List.take_append_of_le_length h.1]
  exact h.2
theorem recv_pre {R B : List ByteArray} {m : Msg} (h : Pre R B) (hm : IsData B m) : Pre (recvB R m) B ∧ recvM R m = ackM ((recvB R m).length : Int) := by
  obtain ⟨j, hj, rfl⟩ := hm
  have e8 : recvE R (dataM ((j : Int) + 1) (nth B j)) ≠ 8 ∧ recvE R (dataM ((j : Int) + 1) (nth B j)) ≠ 2 := by
    unfold recvE dataM
    simp only [ne_eq, not_true_eq_false, if_false]
    rw [if_neg (by omega)]
    (repeat' split) <;> decide
  refine ⟨?_, by unfold recvM; rw [if_neg (by omega)]⟩
  unfold recvB
  split
  · rename_i q
    have hl : R.length = j := by
      unfold recvE dataM at q
      simp only [ne_eq, not_true_eq_false, if_false] at q
      rw [if_neg (by omega)] at q
      split at q
      · cases q
      · split at q
        · cases q
        · omega
    refine ⟨by simp; omega, ?_⟩
    show R ++ [nth B j] = B.take (R ++ [nth B j]).length
    rw [show (R ++ [nth B j]).length = j + 1 from by simp [hl], List.take_add_one, nth_get hj, ← hl, ← h.2]
    rfl
  · exact h
/-- the next one is received -/
theorem recv_next {R B : List ByteArray} {j : Nat} (h : Pre R B) (hj : j < B.length) (hr : j ≤ R.length) : j + 1 ≤ (recvB R (dataM ((j : Int) + 1) (nth B j))).length := by
  by_cases q : j + 1 ≤ R.length
  · have := (recvB_le (B := R) (m := dataM ((j : Int) + 1) (nth B j))).1; omega
  · have e : recvE R (dataM ((j : Int) + 1) (nth B j)) = 0 := by
      unfold recvE dataM
      simp only [ne_eq, not_true_eq_false, if_false]
      rw [if_neg (by omega), if_neg (by omega), if_neg (by omega)]
    unfold recvB
    rw [if_pos e]
    simp; omega
theorem ack_le {B : List ByteArray} {d r : Nat} {m : Msg} (h : IsAck r m) (hd : d ≤ r) : ackD B d m ≤ r := by
  obtain ⟨a, h1, rfl⟩ := h
  unfold ackD
  split
  · show (a : Int).toNat ≤ r; omega
  · exact hd
theorem ack_all {B : List ByteArray} {d : Nat} (hd : d ≤ B.length) : ackE B d (ackM (B.length : Int)) = 0 ∧ ackD B d (ackM (B.length : Int)) = B.length := by
  have e : ackE B d (ackM (B.length : Int)) = 0 := by
    unfold ackE ackM
    simp only [ne_eq, not_true_eq_false, if_false]
    rw [if_neg (by omega), if_neg (by omega)]
  refine ⟨e, ?_⟩
  unfold ackD
  rw [if_pos e]
  show (B.length : Int).toNat = _
  omega
theorem pre_all {R B : List ByteArray} (h : Pre R B) (hl : B.length ≤ R.length) : B = R := by
  rw [h.2, List.take_of_length_le hl]
theorem gotL_one (R : List ByteArray) : gotL R 1 = R ∧ gotK R 1 = 0 := by
  have e : gotK R 1 = 0 := by
    unfold gotK
    split <;> omega
  exact ⟨by rw [gotL, e, List.drop_zero], e⟩
def rm9 (room : Int) : Int := 1 + IntKind.i64.wrap ((IntKind.u64.wrap room).tmod 9)
theorem u64_bd (z : Int) : 0 ≤ IntKind.u64.wrap z ∧ IntKind.u64.wrap z < 18446744073709551616 := by
  have h : IntKind.u64.wrap z = z % 18446744073709551616 := by simp [IntKind.wrap, IntKind.signed, IntKind.bits]
  rw [h]
  omega
theorem u8_bd {n : Int} (h : (Lit.int .u8 n).wf = true) : 0 ≤ n ∧ n ≤ 255 := by
  simp [Lit.wf, IntKind.min, IntKind.max, IntKind.signed, IntKind.bits] at h
  omega
theorem i64_id {z : Int} (h : -9223372036854775808 ≤ z ∧ z ≤ 9223372036854775807) : IntKind.i64.wrap z = z := by
  have := IntWalk.wrap64_in z h
  simpa [IntWalk.i64_left] using this
theorem rm9_bd (room : Int) : 1 ≤ rm9 room ∧ rm9 room ≤ 9 := by
  have h := u64_bd room
  obtain ⟨n, hn⟩ : ∃ n : Nat, IntKind.u64.wrap room = n := ⟨(IntKind.u64.wrap room).toNat, by omega⟩
  have e : ((n : Int)).tmod 9 = ((n % 9 : Nat) : Int) := rfl
  unfold rm9
  rw [hn, e, i64_id (by omega)]
  omega
end Go.Proofs.Ytmnhdiblkjmmfaa
