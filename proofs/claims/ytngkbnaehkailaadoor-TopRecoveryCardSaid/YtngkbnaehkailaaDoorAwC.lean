import Derived.Test.YtngkbnaehkailaaDoorAwB
import Derived.Laws.BytesArg
namespace Go.Proofs.YtngkbnaehkailaaDoor
open Go Go.RowKit Go.Shelf
set_option linter.unusedVariables false
set_option linter.unusedSimpArgs false
theorem conv2 (W : World) (x y : Int) : (convert 74 9 (.slice (some ⟨W.heap.size, 0, none⟩) 2 2)).run Tryd.prog (W.alloc (.cells #[.int .u8 x, .int .u8 y] 5)) = .ok (.string (strOfNums [x, y])) (W.alloc (.cells #[.int .u8 x, .int .u8 y] 5)) :=
  run_convert_bytes_arg (P := Tryd.prog) _ 74 5 Tryd.underlying74 Tryd.underlying5 W.heap.size 0 2 2 [x, y] rfl (fun i hi => by
    match i, hi with
    | 0, _ => simp
    | 1, _ => simp) 9 Tryd.underlying9
set_option maxRecDepth 100000 in
set_option maxHeartbeats 4000000 in
theorem two20 (F : Fence) (n : Nat) (h : F.fn 21) (hro : F.round = none) (w : World) :
    CallsIn F n Tryd.prog 21 #[.int .i64 20] w fun e w' => e = .returned (.string (strOfNums [50, 48])) ∧ w' = w.alloc (.cells #[.int .u8 50, .int .u8 48] 5) := by
  have hconv := conv2 w 50 48
  refine callsIn_of_wp Tryd.func21 rfl h ?_ hro
  simp only [Tryd.ntmps21, List.size_toArray, List.length_cons, List.length_nil, Nat.reduceAdd, Nat.reduceSub, Array.replicate_succ, Array.replicate_zero, List.push_toArray, List.append_toArray, List.nil_append, List.cons_append]
  gi_wp2
  go_ret
  exact ⟨rfl, rfl⟩
set_option maxRecDepth 100000 in
set_option maxHeartbeats 4000000 in
theorem two26 (F : Fence) (n : Nat) (h : F.fn 21) (hro : F.round = none) (w : World) :
    CallsIn F n Tryd.prog 21 #[.int .i64 26] w fun e w' => e = .returned (.string (strOfNums [50, 54])) ∧ w' = w.alloc (.cells #[.int .u8 50, .int .u8 54] 5) := by
  have hconv := conv2 w 50 54
  refine callsIn_of_wp Tryd.func21 rfl h ?_ hro
  simp only [Tryd.ntmps21, List.size_toArray, List.length_cons, List.length_nil, Nat.reduceAdd, Nat.reduceSub, Array.replicate_succ, Array.replicate_zero, List.push_toArray, List.append_toArray, List.nil_append, List.cons_append]
  gi_wp2
  go_ret
  exact ⟨rfl, rfl⟩
set_option maxRecDepth 100000 in
set_option maxHeartbeats 4000000 in
theorem two1 (F : Fence) (n : Nat) (h : F.fn 21) (hro : F.round = none) (w : World) :
    CallsIn F n Tryd.prog 21 #[.int .i64 1] w fun e w' => e = .returned (.string (strOfNums [48, 49])) ∧ w' = w.alloc (.cells #[.int .u8 48, .int .u8 49] 5) := by
  have hconv := conv2 w 48 49
  refine callsIn_of_wp Tryd.func21 rfl h ?_ hro
  simp only [Tryd.ntmps21, List.size_toArray, List.length_cons, List.length_nil, Nat.reduceAdd, Nat.reduceSub, Array.replicate_succ, Array.replicate_zero, List.push_toArray, List.append_toArray, List.nil_append, List.cons_append]
  gi_wp2
  go_ret
  exact ⟨rfl, rfl⟩
set_option maxRecDepth 100000 in
set_option maxHeartbeats 4000000 in
theorem first2026 (F : Fence) (n : Nat) (h : F.fn 28) (hro : F.round = none) (w : World) :
    CallsIn F n Tryd.prog 28 #[.int .i64 2026] w fun e w' => e = .returned (.int .i64 9497) ∧ w' = w := by
  refine callsIn_of_wp Tryd.func28 rfl h ?_ hro
  simp only [Tryd.ntmps28, List.size_toArray, List.length_cons, List.length_nil, Nat.reduceAdd, Nat.reduceSub, Array.replicate_succ, Array.replicate_zero, List.push_toArray, List.append_toArray, List.nil_append, List.cons_append]
  gi_wp2
  go_ret
  exact ⟨rfl, rfl⟩
set_option maxRecDepth 100000 in
set_option maxHeartbeats 4000000 in
theorem first2027 (F : Fence) (n : Nat) (h : F.fn 28) (hro : F.round = none) (w : World) :
    CallsIn F n Tryd.prog 28 #[.int .i64 2027] w fun e w' => e = .returned (.int .i64 9862) ∧ w' = w := by
  refine callsIn_of_wp Tryd.func28 rfl h ?_ hro
  simp only [Tryd.ntmps28, List.size_toArray, List.length_cons, List.length_nil, Nat.reduceAdd, Nat.reduceSub, Array.replicate_succ, Array.replicate_zero, List.push_toArray, List.append_toArray, List.nil_append, List.cons_append]
  gi_wp2
  go_ret
  exact ⟨rfl, rfl⟩
theorem first_in (F : Fence) (n : Nat) (h : F.fn 28) (hro : F.round = none) (y : Int) (hy : y = 2026 ∨ y = 2027) (w : World) :
    CallsIn F n Tryd.prog 28 #[.int .i64 y] w fun e w' => e = .returned (.int .i64 (if y = 2026 then 9497 else 9862)) ∧ w' = w := by
  rcases hy with rfl | rfl
  · exact first2026 F n h hro w
  · exact first2027 F n h hro w
set_option maxRecDepth 100000 in
set_option maxHeartbeats 4000000 in
theorem length1 (F : Fence) (n : Nat) (h : F.fn 29) (hro : F.round = none) (w : World) (hc : w.cell? ⟨0, 0, none⟩ = some (.int .i64 31)) :
    CallsIn F n Tryd.prog 29 #[.int .i64 2026, .int .i64 1] w fun e w' => e = .returned (.int .i64 31) ∧ w' = w := by
  refine callsIn_of_wp Tryd.func29 rfl h ?_ hro
  simp only [Tryd.ntmps29, List.size_toArray, List.length_cons, List.length_nil, Nat.reduceAdd, Nat.reduceSub, Array.replicate_succ, Array.replicate_zero, List.push_toArray, List.append_toArray, List.nil_append, List.cons_append]
  gi_wp2
  go_ret
  exact ⟨rfl, rfl⟩
def numOf : Value → Nat | .int _ n => n.toNat | _ => 0
set_option maxRecDepth 100000 in
set_option maxHeartbeats 4000000 in
theorem date_in (F : Fence) (n : Nat) (h : F.fn 20) (h28 : F.fn 28) (h29 : F.fn 29) (hro : F.round = none) (hn : 1 ≤ n) (w : World) (hc : w.cell? ⟨0, 0, none⟩ = some (.int .i64 31)) :
    CallsIn F n Tryd.prog 20 #[.int .i64 9497] w fun e w' => e = .returned (.tuple #[.int .i64 2026, .int .i64 1, .int .i64 1]) ∧ w' = w := by
  refine callsIn_of_wp Tryd.func20 rfl h ?_ hro
  simp only [Tryd.ntmps20, List.size_toArray, List.length_cons, List.length_nil, Nat.reduceAdd, Nat.reduceSub, Array.replicate_succ, Array.replicate_zero, List.push_toArray, List.append_toArray, List.nil_append, List.cons_append]
  gi_wp2
  gi_loopw [5] (fun p wr => ∃ k : Nat, p = .int .i64 (2025 + (k : Int)) ∧ k ≤ 1 ∧ wr = w) (fun p wr => 2030 - numOf p)
  case atStart => exact ⟨0, rfl, by omega, rfl⟩
  case round =>
    obtain ⟨k, rfl, hk, rfl⟩ := hrel
    rcases (show k = 0 ∨ k = 1 by omega) with rfl | rfl
    · gi_wp2_with (gi_at_call 28; refine (first_in F (n - 1) h28 hro _ (by decide) _).mono ?_; rintro e w' ⟨rfl, rfl⟩)
      go_roundw
      case rel => exact ⟨1, rfl, by omega, by trivial⟩
      case measure => simp [numOf]
    · gi_wp2_with (gi_at_call 28; refine (first_in F (n - 1) h28 hro _ (by decide) _).mono ?_; rintro e w' ⟨rfl, rfl⟩)
      gi_loopw [6, 29] (fun p q wr => p = .int .i64 0 ∧ q = .int .i64 0 ∧ wr = w') (fun p q wr => 5)
      case atStart => exact ⟨rfl, rfl, rfl⟩
      case round =>
        obtain ⟨rfl, rfl, rfl⟩ := hrel
        gi_wp2_with (gi_at_call 29; refine (length1 F (n - 1) h29 hro _ hc).mono ?_; rintro e w' ⟨rfl, rfl⟩)
        go_ret3
        exact ⟨rfl, rfl⟩
def twoS (y : Int) : ByteArray := if y = 20 then ⟨#[50, 48]⟩ else if y = 26 then ⟨#[50, 54]⟩ else ⟨#[48, 49]⟩
theorem two_in (F : Fence) (n : Nat) (h : F.fn 21) (hro : F.round = none) (y : Int) (hy : y = 20 ∨ y = 26 ∨ y = 1) (w : World) :
    CallsIn F n Tryd.prog 21 #[.int .i64 y] w fun e w' => e = .returned (.string (twoS y)) ∧ Below w.heap.size w w' := by
  have hb : ∀ o : Obj, Below w.heap.size w (w.alloc o) := fun o => (Below.refl _ w).alloc (Nat.le_refl _) o
  rcases hy with rfl | rfl | rfl
  · exact (two20 F n h hro w).mono fun e w' ⟨h1, h2⟩ => ⟨h1, h2 ▸ hb _⟩
  · exact (two26 F n h hro w).mono fun e w' ⟨h1, h2⟩ => ⟨h1, h2 ▸ hb _⟩
  · exact (two1 F n h hro w).mono fun e w' ⟨h1, h2⟩ => ⟨h1, h2 ▸ hb _⟩
set_option maxRecDepth 100000 in
set_option maxHeartbeats 4000000 in
theorem print_in (F : Fence) (n : Nat) (h : F.fn 11) (h20 : F.fn 20) (h21 : F.fn 21) (h28 : F.fn 28) (h29 : F.fn 29) (hro : F.round = none) (hn : 2 ≤ n) (w : World) (hc : w.cell? ⟨0, 0, none⟩ = some (.int .i64 31)) :
    CallsIn F n Tryd.prog 11 #[.int .i64 9497] w fun e w' => e = .returned (.string ⟨#[50, 48, 50, 54, 45, 48, 49, 45, 48, 49]⟩) ∧ Below w.heap.size w w' := by
  have h1 : 1 ≤ n := by omega
  have h2 : 1 ≤ n - 1 := by omega
  have hB := Below.refl w.heap.size w
  refine callsIn_of_wp Tryd.func11 rfl h ?_ hro
  simp only [Tryd.ntmps11, List.size_toArray, List.length_cons, List.length_nil, Nat.reduceAdd, Nat.reduceSub, Array.replicate_succ, Array.replicate_zero, List.push_toArray, List.append_toArray, List.nil_append, List.cons_append]
  gi_wp2_with (first | (gi_at_call 20; refine (date_in F (n - 1) h20 h28 h29 hro (by omega) _ hc).mono ?_; rintro e w' ⟨rfl, rfl⟩) | (gi_at_call 21; refine (two_in F (n - 1) h21 hro _ (by decide) _).mono ?_; rintro e w' ⟨rfl, hB'⟩; replace hB := hB.trans (hB'.mono hB.size); clear hB'))
  go_ret
  exact ⟨by rfl, hB⟩
set_option maxRecDepth 100000 in
set_option maxHeartbeats 4000000 in
theorem offset_in (F : Fence) (n : Nat) (h : F.fn 23) (hro : F.round = none) (w : World) :
    CallsIn F n Tryd.prog 23 #[.agg #[.int .i64 60, .slice none 0 0], .int .i64 5] w fun e w' => e = .returned (.int .i64 60) ∧ Below w.heap.size w w' := by
  have hB : Below w.heap.size w (w.alloc (.cells #[.int .i64 60, .slice none 0 0] 53)) := (Below.refl _ w).alloc (Nat.le_refl _) _
  refine callsIn_of_wp Tryd.func23 rfl h ?_ hro
  simp only [Tryd.ntmps23, List.size_toArray, List.length_cons, List.length_nil, Nat.reduceAdd, Nat.reduceSub, Array.replicate_succ, Array.replicate_zero, List.push_toArray, List.append_toArray, List.nil_append, List.cons_append]
  gi_wp2
  gi_loopw [5, 13] (fun p q wr => p = .int .i64 60 ∧ q = .int .i64 0 ∧ Below w.heap.size w wr) (fun p q wr => 5)
  case atStart => exact ⟨rfl, rfl, hB⟩
  case round =>
    obtain ⟨rfl, rfl, hBr⟩ := hrel
    gi_wp2
    go_ret
    exact ⟨rfl, hBr⟩
set_option maxRecDepth 100000 in
set_option maxHeartbeats 4000000 in
theorem local_in (F : Fence) (n : Nat) (h : F.fn 13) (h23 : F.fn 23) (hro : F.round = none) (hn : 1 ≤ n) (w : World) :
    CallsIn F n Tryd.prog 13 #[.agg #[.int .i64 60, .slice none 0 0], .int .i64 5] w fun e w' => e = .returned (.int .i64 65) ∧ Below w.heap.size w w' := by
  have hB : Below w.heap.size w (w.alloc (.cells #[.int .i64 60, .slice none 0 0] 53)) := (Below.refl _ w).alloc (Nat.le_refl _) _
  refine callsIn_of_wp Tryd.func13 rfl h ?_ hro
  simp only [Tryd.ntmps13, List.size_toArray, List.length_cons, List.length_nil, Nat.reduceAdd, Nat.reduceSub, Array.replicate_succ, Array.replicate_zero, List.push_toArray, List.append_toArray, List.nil_append, List.cons_append]
  gi_wp2_with (gi_at_call 23; refine (offset_in F (n - 1) h23 hro _).mono ?_; rintro e w' ⟨rfl, hB'⟩)
  go_ret
  exact ⟨rfl, hB.trans (hB'.mono hB.size)⟩
set_option maxRecDepth 100000 in
set_option maxHeartbeats 4000000 in
theorem awake_in (F : Fence) (n : Nat) (h4 : F.fn 4) (hF : ∀ f, F.fn f) (hro : F.round = none) (hn : 6 ≤ n) (w : World) (hc : w.cell? ⟨0, 0, none⟩ = some (.int .i64 31)) :
    CallsIn F n Tryd.prog 4 #[] w fun e w' => e = .returned (.bool true) ∧ Below w.heap.size w w' := by
  have h1 : 1 ≤ n := by omega
  have h2 : 1 ≤ n - 1 := by omega
  have hB := Below.refl w.heap.size w
  refine callsIn_of_wp Tryd.func4 rfl h4 ?_ hro
  simp only [Tryd.ntmps4, List.size_toArray, List.length_cons, List.length_nil, Nat.reduceAdd, Nat.reduceSub, Array.replicate_succ, Array.replicate_zero, List.push_toArray, List.append_toArray, List.nil_append, List.cons_append]
  gi_wp2_with (first | (gi_at_call 11; refine (print_in F (n - 1) (hF _) (hF _) (hF _) (hF _) (hF _) hro (by omega) _ hc).mono ?_; rintro e w' ⟨rfl, hB'⟩; replace hB := hB.trans (hB'.mono hB.size); clear hB') | (gi_at_call 12; refine (count_in F (n - 1) (hF _) (hF _) (hF _) (hF _) (hF _) (hF _) hro (by omega) _).mono ?_; rintro e w' ⟨rfl, hB'⟩; replace hB := hB.trans (hB'.mono hB.size); clear hB') | (gi_at_call 13; refine (local_in F (n - 1) (hF _) (hF _) hro (by omega) _).mono ?_; rintro e w' ⟨rfl, hB'⟩; replace hB := hB.trans (hB'.mono hB.size); clear hB'))
  go_ret
  exact ⟨rfl, hB⟩
theorem awake_calls (w : World) (hc : w.cell? ⟨0, 0, none⟩ = some (.int .i64 31)) : Calls Tryd.prog 4 #[] w fun e w' => e = .returned (.bool true) ∧ Below w.heap.size w w' :=
  (callsIn_wide (n := 6)).1 (awake_in Fence.wide 6 trivial (fun _ => trivial) rfl (by omega) w hc)
end Go.Proofs.YtngkbnaehkailaaDoor
