import Derived.RangeFuncFrom
import Derived.RangeFuncNested
import Derived.RangeFuncBound
import Derived.RangeFuncCalls
import Derived.RangeFuncLeaves
import Derived.Shelf.Abstract
import Derived.Shelf.RegionOpen
import Derived.WalkKit
import Derived.OwnWalkIn
import Derived.TacticsInMore
import Derived.LoopNIn
import Derived.LoopIn
import Derived.Test.YtngkbnaehkailaaDoorProg
namespace Go.Proofs.YtngkbnaehkailaaDoor
open Go Go.RowKit Go.Shelf
set_option linter.unusedVariables false
attribute [local go_sem] Oper.semAt_some
set_option maxRecDepth 100000 in
set_option maxHeartbeats 4000000 in
theorem each_in (F : Fence) (n : Nat) (h5 : F.fn 22) (hro : F.round = none) (a b c : Int) (w : World) :
    CallsIn F n Tryd.prog 22 #[.agg #[.int .i64 a, .int .i64 b, .int .i64 c]] w fun e w' => e = .returned (.func (.func 30) #[] #[.pointer (some ⟨w.heap.size, 0, none⟩)]) ∧ w' = w.alloc (.cells #[.int .i64 a, .int .i64 b, .int .i64 c] 49) := by
  refine callsIn_of_wp Tryd.func22 rfl h5 ?_ hro
  simp only [Tryd.ntmps22, List.size_toArray, List.length_cons, List.length_nil, Nat.reduceAdd, Nat.reduceSub, Array.replicate_succ, Array.replicate_zero, List.push_toArray, List.append_toArray, List.nil_append, List.cons_append]
  gi_wp2
  go_ret
  exact ⟨rfl, rfl⟩
set_option maxRecDepth 100000 in
set_option maxHeartbeats 4000000 in
theorem wday9497 (F : Fence) (n : Nat) (h : F.fn 33) (hro : F.round = none) (w : World) :
    CallsIn F n Tryd.prog 33 #[.int .i64 9497] w fun e w' => e = .returned (.int .i64 3) ∧ w' = w := by
  refine callsIn_of_wp Tryd.func33 rfl h ?_ hro
  simp only [Tryd.ntmps33, List.size_toArray, List.length_cons, List.length_nil, Nat.reduceAdd, Nat.reduceSub, Array.replicate_succ, Array.replicate_zero, List.push_toArray, List.append_toArray, List.nil_append, List.cons_append]
  gi_wp2
  go_ret
  exact ⟨rfl, rfl⟩
set_option maxRecDepth 100000 in
set_option maxHeartbeats 4000000 in
theorem on9497 (F : Fence) (n : Nat) (h : F.fn 32) (h33 : F.fn 33) (hro : F.round = none) (hn : 1 ≤ n) (w : World) :
    CallsIn F n Tryd.prog 32 #[.int .i64 96, .int .i64 9497] w fun e w' => e = .returned (.bool false) ∧ w' = w := by
  refine callsIn_of_wp Tryd.func32 rfl h ?_ hro
  simp only [Tryd.ntmps32, List.size_toArray, List.length_cons, List.length_nil, Nat.reduceAdd, Nat.reduceSub, Array.replicate_succ, Array.replicate_zero, List.push_toArray, List.append_toArray, List.nil_append, List.cons_append]
  gi_wp2_with (gi_at_call 33; refine (wday9497 F (n - 1) h33 hro _).mono ?_; rintro e w' ⟨rfl, rfl⟩)
  go_ret
  exact ⟨rfl, rfl⟩
set_option maxRecDepth 100000 in
set_option maxHeartbeats 4000000 in
theorem wday9498 (F : Fence) (n : Nat) (h : F.fn 33) (hro : F.round = none) (w : World) :
    CallsIn F n Tryd.prog 33 #[.int .i64 9498] w fun e w' => e = .returned (.int .i64 4) ∧ w' = w := by
  refine callsIn_of_wp Tryd.func33 rfl h ?_ hro
  simp only [Tryd.ntmps33, List.size_toArray, List.length_cons, List.length_nil, Nat.reduceAdd, Nat.reduceSub, Array.replicate_succ, Array.replicate_zero, List.push_toArray, List.append_toArray, List.nil_append, List.cons_append]
  gi_wp2
  go_ret
  exact ⟨rfl, rfl⟩
set_option maxRecDepth 100000 in
set_option maxHeartbeats 4000000 in
theorem on9498 (F : Fence) (n : Nat) (h : F.fn 32) (h33 : F.fn 33) (hro : F.round = none) (hn : 1 ≤ n) (w : World) :
    CallsIn F n Tryd.prog 32 #[.int .i64 96, .int .i64 9498] w fun e w' => e = .returned (.bool false) ∧ w' = w := by
  refine callsIn_of_wp Tryd.func32 rfl h ?_ hro
  simp only [Tryd.ntmps32, List.size_toArray, List.length_cons, List.length_nil, Nat.reduceAdd, Nat.reduceSub, Array.replicate_succ, Array.replicate_zero, List.push_toArray, List.append_toArray, List.nil_append, List.cons_append]
  gi_wp2_with (gi_at_call 33; refine (wday9498 F (n - 1) h33 hro _).mono ?_; rintro e w' ⟨rfl, rfl⟩)
  go_ret
  exact ⟨rfl, rfl⟩
set_option maxRecDepth 100000 in
set_option maxHeartbeats 4000000 in
theorem wday9499 (F : Fence) (n : Nat) (h : F.fn 33) (hro : F.round = none) (w : World) :
    CallsIn F n Tryd.prog 33 #[.int .i64 9499] w fun e w' => e = .returned (.int .i64 5) ∧ w' = w := by
  refine callsIn_of_wp Tryd.func33 rfl h ?_ hro
  simp only [Tryd.ntmps33, List.size_toArray, List.length_cons, List.length_nil, Nat.reduceAdd, Nat.reduceSub, Array.replicate_succ, Array.replicate_zero, List.push_toArray, List.append_toArray, List.nil_append, List.cons_append]
  gi_wp2
  go_ret
  exact ⟨rfl, rfl⟩
set_option maxRecDepth 100000 in
set_option maxHeartbeats 4000000 in
theorem on9499 (F : Fence) (n : Nat) (h : F.fn 32) (h33 : F.fn 33) (hro : F.round = none) (hn : 1 ≤ n) (w : World) :
    CallsIn F n Tryd.prog 32 #[.int .i64 96, .int .i64 9499] w fun e w' => e = .returned (.bool true) ∧ w' = w := by
  refine callsIn_of_wp Tryd.func32 rfl h ?_ hro
  simp only [Tryd.ntmps32, List.size_toArray, List.length_cons, List.length_nil, Nat.reduceAdd, Nat.reduceSub, Array.replicate_succ, Array.replicate_zero, List.push_toArray, List.append_toArray, List.nil_append, List.cons_append]
  gi_wp2_with (gi_at_call 33; refine (wday9499 F (n - 1) h33 hro _).mono ?_; rintro e w' ⟨rfl, rfl⟩)
  go_ret
  exact ⟨rfl, rfl⟩
set_option maxRecDepth 100000 in
set_option maxHeartbeats 4000000 in
theorem wday9500 (F : Fence) (n : Nat) (h : F.fn 33) (hro : F.round = none) (w : World) :
    CallsIn F n Tryd.prog 33 #[.int .i64 9500] w fun e w' => e = .returned (.int .i64 6) ∧ w' = w := by
  refine callsIn_of_wp Tryd.func33 rfl h ?_ hro
  simp only [Tryd.ntmps33, List.size_toArray, List.length_cons, List.length_nil, Nat.reduceAdd, Nat.reduceSub, Array.replicate_succ, Array.replicate_zero, List.push_toArray, List.append_toArray, List.nil_append, List.cons_append]
  gi_wp2
  go_ret
  exact ⟨rfl, rfl⟩
set_option maxRecDepth 100000 in
set_option maxHeartbeats 4000000 in
theorem on9500 (F : Fence) (n : Nat) (h : F.fn 32) (h33 : F.fn 33) (hro : F.round = none) (hn : 1 ≤ n) (w : World) :
    CallsIn F n Tryd.prog 32 #[.int .i64 96, .int .i64 9500] w fun e w' => e = .returned (.bool true) ∧ w' = w := by
  refine callsIn_of_wp Tryd.func32 rfl h ?_ hro
  simp only [Tryd.ntmps32, List.size_toArray, List.length_cons, List.length_nil, Nat.reduceAdd, Nat.reduceSub, Array.replicate_succ, Array.replicate_zero, List.push_toArray, List.append_toArray, List.nil_append, List.cons_append]
  gi_wp2_with (gi_at_call 33; refine (wday9500 F (n - 1) h33 hro _).mono ?_; rintro e w' ⟨rfl, rfl⟩)
  go_ret
  exact ⟨rfl, rfl⟩
set_option maxRecDepth 100000 in
set_option maxHeartbeats 4000000 in
theorem wday9501 (F : Fence) (n : Nat) (h : F.fn 33) (hro : F.round = none) (w : World) :
    CallsIn F n Tryd.prog 33 #[.int .i64 9501] w fun e w' => e = .returned (.int .i64 0) ∧ w' = w := by
  refine callsIn_of_wp Tryd.func33 rfl h ?_ hro
  simp only [Tryd.ntmps33, List.size_toArray, List.length_cons, List.length_nil, Nat.reduceAdd, Nat.reduceSub, Array.replicate_succ, Array.replicate_zero, List.push_toArray, List.append_toArray, List.nil_append, List.cons_append]
  gi_wp2
  go_ret
  exact ⟨rfl, rfl⟩
set_option maxRecDepth 100000 in
set_option maxHeartbeats 4000000 in
theorem on9501 (F : Fence) (n : Nat) (h : F.fn 32) (h33 : F.fn 33) (hro : F.round = none) (hn : 1 ≤ n) (w : World) :
    CallsIn F n Tryd.prog 32 #[.int .i64 96, .int .i64 9501] w fun e w' => e = .returned (.bool false) ∧ w' = w := by
  refine callsIn_of_wp Tryd.func32 rfl h ?_ hro
  simp only [Tryd.ntmps32, List.size_toArray, List.length_cons, List.length_nil, Nat.reduceAdd, Nat.reduceSub, Array.replicate_succ, Array.replicate_zero, List.push_toArray, List.append_toArray, List.nil_append, List.cons_append]
  gi_wp2_with (gi_at_call 33; refine (wday9501 F (n - 1) h33 hro _).mono ?_; rintro e w' ⟨rfl, rfl⟩)
  go_ret
  exact ⟨rfl, rfl⟩
set_option maxRecDepth 100000 in
set_option maxHeartbeats 4000000 in
theorem wday9502 (F : Fence) (n : Nat) (h : F.fn 33) (hro : F.round = none) (w : World) :
    CallsIn F n Tryd.prog 33 #[.int .i64 9502] w fun e w' => e = .returned (.int .i64 1) ∧ w' = w := by
  refine callsIn_of_wp Tryd.func33 rfl h ?_ hro
  simp only [Tryd.ntmps33, List.size_toArray, List.length_cons, List.length_nil, Nat.reduceAdd, Nat.reduceSub, Array.replicate_succ, Array.replicate_zero, List.push_toArray, List.append_toArray, List.nil_append, List.cons_append]
  gi_wp2
  go_ret
  exact ⟨rfl, rfl⟩
set_option maxRecDepth 100000 in
set_option maxHeartbeats 4000000 in
theorem on9502 (F : Fence) (n : Nat) (h : F.fn 32) (h33 : F.fn 33) (hro : F.round = none) (hn : 1 ≤ n) (w : World) :
    CallsIn F n Tryd.prog 32 #[.int .i64 96, .int .i64 9502] w fun e w' => e = .returned (.bool false) ∧ w' = w := by
  refine callsIn_of_wp Tryd.func32 rfl h ?_ hro
  simp only [Tryd.ntmps32, List.size_toArray, List.length_cons, List.length_nil, Nat.reduceAdd, Nat.reduceSub, Array.replicate_succ, Array.replicate_zero, List.push_toArray, List.append_toArray, List.nil_append, List.cons_append]
  gi_wp2_with (gi_at_call 33; refine (wday9502 F (n - 1) h33 hro _).mono ?_; rintro e w' ⟨rfl, rfl⟩)
  go_ret
  exact ⟨rfl, rfl⟩
set_option maxRecDepth 100000 in
set_option maxHeartbeats 4000000 in
theorem wday9503 (F : Fence) (n : Nat) (h : F.fn 33) (hro : F.round = none) (w : World) :
    CallsIn F n Tryd.prog 33 #[.int .i64 9503] w fun e w' => e = .returned (.int .i64 2) ∧ w' = w := by
  refine callsIn_of_wp Tryd.func33 rfl h ?_ hro
  simp only [Tryd.ntmps33, List.size_toArray, List.length_cons, List.length_nil, Nat.reduceAdd, Nat.reduceSub, Array.replicate_succ, Array.replicate_zero, List.push_toArray, List.append_toArray, List.nil_append, List.cons_append]
  gi_wp2
  go_ret
  exact ⟨rfl, rfl⟩
set_option maxRecDepth 100000 in
set_option maxHeartbeats 4000000 in
theorem on9503 (F : Fence) (n : Nat) (h : F.fn 32) (h33 : F.fn 33) (hro : F.round = none) (hn : 1 ≤ n) (w : World) :
    CallsIn F n Tryd.prog 32 #[.int .i64 96, .int .i64 9503] w fun e w' => e = .returned (.bool false) ∧ w' = w := by
  refine callsIn_of_wp Tryd.func32 rfl h ?_ hro
  simp only [Tryd.ntmps32, List.size_toArray, List.length_cons, List.length_nil, Nat.reduceAdd, Nat.reduceSub, Array.replicate_succ, Array.replicate_zero, List.push_toArray, List.append_toArray, List.nil_append, List.cons_append]
  gi_wp2_with (gi_at_call 33; refine (wday9503 F (n - 1) h33 hro _).mono ?_; rintro e w' ⟨rfl, rfl⟩)
  go_ret
  exact ⟨rfl, rfl⟩
set_option maxRecDepth 100000 in
set_option maxHeartbeats 4000000 in
theorem pcheck_in (F : Fence) (n : Nat) (h : F.fn 31) (hro : F.round = none) (w : World) :
    CallsIn F n Tryd.prog 31 #[.agg #[.int .i64 9497, .int .i64 9503, .int .i64 96]] w fun e w' => e = .returned (.int .i64 0) ∧ w' = w.alloc (.cells #[.int .i64 9497, .int .i64 9503, .int .i64 96] 49) := by
  refine callsIn_of_wp Tryd.func31 rfl h ?_ hro
  simp only [Tryd.ntmps31, List.size_toArray, List.length_cons, List.length_nil, Nat.reduceAdd, Nat.reduceSub, Array.replicate_succ, Array.replicate_zero, List.push_toArray, List.append_toArray, List.nil_append, List.cons_append]
  gi_wp2
  go_ret
  exact ⟨rfl, rfl⟩
theorem cell_al {W : World} {a : Addr} {v : Value} (o : Obj) (h : W.cell? a = some v) : (W.alloc o).cell? a = some v := cell_kept h (World.grownBy_alloc W o none) (fun r e => by cases e)
theorem frozen_al {W : World} {a : Addr} {v : Value} (o : Obj) (h : W.cell? a = some v) (hf : W.frozen? a = false) : (W.alloc o).frozen? a = false := (frozen_kept h (World.grownBy_alloc W o none) (fun r e => by cases e)).trans hf
theorem abides_al {β : Type} {B : Nat} {J : β → World → Prop} (hJ : AbidesFrom B J) {s : β} {W : World} (o : Obj) (h : J s W) : J s (W.alloc o) := hJ s W _ none h (World.grownBy_alloc W o none) (fun r e => by cases e)
def BoxIs (b : Nat) (W : World) : Prop := W.cell? ⟨b, 0, none⟩ = some (.int .i64 9497) ∧ W.cell? ⟨b, 1, none⟩ = some (.int .i64 9503) ∧ W.cell? ⟨b, 2, none⟩ = some (.int .i64 96)
def preK (k : Nat) : List Int := if k ≤ 2 then [] else if k = 3 then [9499] else [9499, 9500]
def dayOf : Value → Nat | .int _ n => (9504 - n).toNat | _ => 0
set_option maxRecDepth 100000 in
set_option maxHeartbeats 4000000 in
theorem each1_stops (F : Fence) (n : Nat) (h30 : F.fn 30) (h31 : F.fn 31) (h32 : F.fn 32) (h33 : F.fn 33) (hro : F.round = none) (hn : 2 ≤ n) (b : Nat) (w : World) (hbw : b < w.heap.size) (hb : BoxIs b w) :
    SeqStopsK F n Tryd.prog 30 #[.pointer (some ⟨b, 0, none⟩)] (fun x : Int => #[Value.int .i64 x]) (fun A B => BoxIs b A → BoxIs b B) (fun ys => ys = [9499, 9500]) (fun _ => True) 2 w := fun l J Jx W hW hJ hJx hY h0 => by
  have hb' : BoxIs b W := ⟨(hW.cell (p := ⟨b, 0, none⟩) hbw).trans hb.1, (hW.cell (p := ⟨b, 1, none⟩) hbw).trans hb.2.1, (hW.cell (p := ⟨b, 2, none⟩) hbw).trans hb.2.2⟩
  have hl : (loadCells ⟨b, 0, none⟩ 3).run Tryd.prog W = .ok #[.int .i64 9497, .int .i64 9503, .int .i64 96] W :=
    run_loadCells_list (P := Tryd.prog) W ⟨b, 0, none⟩ [.int .i64 9497, .int .i64 9503, .int .i64 96] (fun j v hj => by
      have hplain : (⟨b, 0, none⟩ : Addr).add j = ⟨b, 0 + j, none⟩ := by unfold Addr.add; split <;> simp_all
      rw [hplain, Nat.zero_add]
      match j, hj with
      | 0, hj => simp at hj; subst hj; exact hb'.1
      | 1, hj => simp at hj; subst hj; exact hb'.2.1
      | 2, hj => simp at hj; subst hj; exact hb'.2.2)
  obtain ⟨q0, q1, q2⟩ := hb'
  have h1 : 1 ≤ n := by omega
  have h2 : 1 ≤ n - 1 := by omega
  refine callsIn_of_wp Tryd.func30 rfl h30 ?_ hro
  simp only [Tryd.ntmps30, List.size_toArray, List.length_cons, List.length_nil, Nat.reduceAdd, Nat.reduceSub, Array.replicate_succ, Array.replicate_zero, List.push_toArray, List.append_toArray, List.nil_append, List.cons_append]
  gi_wp2_with (gi_at_call 31; go_loud (refine (pcheck_in F (n - 1) h31 hro _).mono ?_; rintro e W1 ⟨rfl, hW1⟩; have r0 : W1.cell? ⟨b, 0, none⟩ = some (.int .i64 9497) := hW1 ▸ cell_al _ q0; have r1 : W1.cell? ⟨b, 1, none⟩ = some (.int .i64 9503) := hW1 ▸ cell_al _ q1; have r2 : W1.cell? ⟨b, 2, none⟩ = some (.int .i64 96) := hW1 ▸ cell_al _ q2; have j1 : J [] W1 := hW1 ▸ abides_al hJ _ h0; clear q0 q1 q2 hl h0 hW1))
  gi_loopw [3] (fun p wr => ∃ k : Nat, p = .int .i64 (9497 + (k : Int)) ∧ k ≤ 7 ∧ J (preK k) wr ∧ BoxIs b wr) (fun p wr => dayOf p)
  case atStart =>
    exact ⟨0, rfl, by omega, j1, r0, r1, r2⟩
  case round =>
    obtain ⟨k, rfl, hk, hJs, p0, p1, p2⟩ := hrel
    rcases (show k = 0 ∨ k = 1 ∨ k = 2 ∨ k = 3 ∨ k = 4 ∨ k = 5 ∨ k = 6 ∨ k = 7 by omega) with rfl | rfl | rfl | rfl | rfl | rfl | rfl | rfl
    · gi_wp2_with (gi_at_call 32; refine (on9497 F (n - 1) h32 h33 hro (by omega) _).mono ?_; rintro e w' ⟨rfl, rfl⟩)
      refine ⟨fun _ h => (by cases h), ?_⟩
      gi_wp2
      go_roundw
      case rel => exact ⟨1, rfl, by omega, hJs, p0, p1, p2⟩
      case measure => simp [dayOf]
    · gi_wp2_with (gi_at_call 32; refine (on9498 F (n - 1) h32 h33 hro (by omega) _).mono ?_; rintro e w' ⟨rfl, rfl⟩)
      refine ⟨fun _ h => (by cases h), ?_⟩
      gi_wp2
      go_roundw
      case rel => exact ⟨2, rfl, by omega, hJs, p0, p1, p2⟩
      case measure => simp [dayOf]
    · obtain ⟨fn, tmps, assign, body, hy, hR⟩ := hY (preK 2) 9499 wr hJs (by decide)
      gi_wp2_with (gi_at_call 32; refine (on9499 F (n - 1) h32 h33 hro (by omega) _).mono ?_; rintro e w' ⟨rfl, rfl⟩)
      refine hR.mono ?_
      rintro e W3 (⟨rfl, hJ3, hk3⟩ | ⟨rfl, hJx3⟩)
      · obtain ⟨s0, s1, s2⟩ := hk3 ⟨p0, p1, p2⟩
        gi_wp2
        go_roundw
        case rel => exact ⟨3, rfl, by omega, hJ3, s0, s1, s2⟩
        case measure => simp [dayOf]
      · gi_wp2
        refine bodyPost_ret (results_none rfl _ _ _) rfl ?_
        exact ⟨⟨_, rfl⟩, .inr ⟨_, trivial, hJx3⟩⟩
    · obtain ⟨fn, tmps, assign, body, hy, hR⟩ := hY (preK 3) 9500 wr hJs (by decide)
      gi_wp2_with (gi_at_call 32; refine (on9500 F (n - 1) h32 h33 hro (by omega) _).mono ?_; rintro e w' ⟨rfl, rfl⟩)
      refine hR.mono ?_
      rintro e W3 (⟨rfl, hJ3, hk3⟩ | ⟨rfl, hJx3⟩)
      · obtain ⟨s0, s1, s2⟩ := hk3 ⟨p0, p1, p2⟩
        gi_wp2
        go_roundw
        case rel => exact ⟨4, rfl, by omega, hJ3, s0, s1, s2⟩
        case measure => simp [dayOf]
      · gi_wp2
        refine bodyPost_ret (results_none rfl _ _ _) rfl ?_
        exact ⟨⟨_, rfl⟩, .inr ⟨_, trivial, hJx3⟩⟩
    · gi_wp2_with (gi_at_call 32; refine (on9501 F (n - 1) h32 h33 hro (by omega) _).mono ?_; rintro e w' ⟨rfl, rfl⟩)
      refine ⟨fun _ h => (by cases h), ?_⟩
      gi_wp2
      go_roundw
      case rel => exact ⟨5, rfl, by omega, hJs, p0, p1, p2⟩
      case measure => simp [dayOf]
    · gi_wp2_with (gi_at_call 32; refine (on9502 F (n - 1) h32 h33 hro (by omega) _).mono ?_; rintro e w' ⟨rfl, rfl⟩)
      refine ⟨fun _ h => (by cases h), ?_⟩
      gi_wp2
      go_roundw
      case rel => exact ⟨6, rfl, by omega, hJs, p0, p1, p2⟩
      case measure => simp [dayOf]
    · gi_wp2_with (gi_at_call 32; refine (on9503 F (n - 1) h32 h33 hro (by omega) _).mono ?_; rintro e w' ⟨rfl, rfl⟩)
      refine ⟨fun _ h => (by cases h), ?_⟩
      gi_wp2
      go_roundw
      case rel => exact ⟨7, rfl, by omega, hJs, p0, p1, p2⟩
      case measure => simp [dayOf]
    · gi_wp2
      go_end0
      exact ⟨⟨_, rfl⟩, .inl ⟨[9499, 9500], rfl, hJs⟩⟩
theorem box_new (W : World) : BoxIs W.heap.size (W.alloc (.cells #[.int .i64 9497, .int .i64 9503, .int .i64 96] 49)) := ⟨by simp, by simp, by simp⟩
theorem box_kept {b : Nat} {W W' : World} {row : Option Nat} (h : BoxIs b W) (hg : W.grownBy W' row) (hrow : ∀ r, row = some r → ∃ o : Obj, W.heap[r]? = some o ∧ o.isCells = false) : BoxIs b W' := ⟨cell_kept h.1 hg hrow, cell_kept h.2.1 hg hrow, cell_kept h.2.2 hg hrow⟩
theorem cell_one (W : World) (v : Value) (t : TypeId) : (W.alloc (.cells #[v] t)).cell? ⟨W.heap.size, 0, none⟩ = some v := by simp
theorem froz_one (W : World) (v : Value) (t : TypeId) : (W.alloc (.cells #[v] t)).frozen? ⟨W.heap.size, 0, none⟩ = false := by simp
set_option maxRecDepth 100000 in
set_option maxHeartbeats 4000000 in
theorem count_in (F : Fence) (n : Nat) (h12 : F.fn 12) (h22 : F.fn 22) (h30 : F.fn 30) (h31 : F.fn 31) (h32 : F.fn 32) (h33 : F.fn 33) (hro : F.round = none) (hn : 4 ≤ n) (w : World) :
    CallsIn F n Tryd.prog 12 #[.agg #[.int .i64 9497, .int .i64 9503, .int .i64 96]] w fun e W' => e = .returned (.int .i64 2) ∧ Below w.heap.size w W' := by
  have h1 : 1 ≤ n := by omega
  have h2 : 1 ≤ n - 1 := by omega
  refine callsIn_of_wp_marks Tryd.func12 rfl h12 ?_ hro
  simp only [Tryd.ntmps12, List.size_toArray, List.length_cons, List.length_nil, Nat.reduceAdd, Nat.reduceSub, Array.replicate_succ, Array.replicate_zero, List.push_toArray, List.append_toArray, List.nil_append, List.cons_append]
  gi_wp2_with (gi_at_call 22; refine (each_in F (n - 1) h22 hro _ _ _ _).mono ?_; rintro e w' ⟨rfl, rfl⟩)
  have c0 : World.cell? (((w.alloc (.cells #[.int .i64 9497, .int .i64 9503, .int .i64 96] 49)).alloc (.cells #[.int .i64 0] 3)).alloc (.cells #[.int .i64 9497, .int .i64 9503, .int .i64 96] 49)) ⟨w.heap.size + 1, 0, none⟩ = some (.int .i64 0) := by
    refine cell_al _ ?_
    have := cell_one (w.alloc (.cells #[.int .i64 9497, .int .i64 9503, .int .i64 96] 49)) (.int .i64 0) 3
    rwa [World.size_alloc] at this
  have f0 : World.frozen? (((w.alloc (.cells #[.int .i64 9497, .int .i64 9503, .int .i64 96] 49)).alloc (.cells #[.int .i64 0] 3)).alloc (.cells #[.int .i64 9497, .int .i64 9503, .int .i64 96] 49)) ⟨w.heap.size + 1, 0, none⟩ = false := by
    have a1 := cell_one (w.alloc (.cells #[.int .i64 9497, .int .i64 9503, .int .i64 96] 49)) (.int .i64 0) 3
    have a2 := froz_one (w.alloc (.cells #[.int .i64 9497, .int .i64 9503, .int .i64 96] 49)) (.int .i64 0) 3
    rw [World.size_alloc] at a1 a2
    exact frozen_al _ a1 a2
  have b0 := box_new ((w.alloc (.cells #[.int .i64 9497, .int .i64 9503, .int .i64 96] 49)).alloc (.cells #[.int .i64 0] 3))
  rw [World.size_alloc, World.size_alloc] at b0
  have hB0 : Below w.heap.size w (((w.alloc (.cells #[.int .i64 9497, .int .i64 9503, .int .i64 96] 49)).alloc (.cells #[.int .i64 0] 3)).alloc (.cells #[.int .i64 9497, .int .i64 9503, .int .i64 96] 49)) := (((Below.refl _ w).alloc (Nat.le_refl _) _).alloc (by simp) _).alloc (by simp; omega) _
  refine wpIn_rangeFunc_ownF hro h1 (gf := 30) (lb := #[.pointer (some ⟨w.heap.size + 1 + 1, 0, none⟩)]) rfl h30 (enters_of Tryd.func30 (by kernel_rfl) rfl)
    (each1_stops F (n - 1) h30 h31 h32 h33 hro (by omega) (w.heap.size + 1 + 1) _ (by simp) b0) (fun h k hb => k (h hb)) (fun W l o o' _ h hc _ hb => box_kept hb (grownBy_putObj' W l o') (fun r e => by cases e; exact ⟨o, h, hc⟩)) (Below.refl _ _) (fun _ => rfl)
    (fun pre W => (W.cell? ⟨w.heap.size + 1, 0, none⟩ = some (.int .i64 (pre.length : Int)) ∧ W.frozen? ⟨w.heap.size + 1, 0, none⟩ = false) ∧ Below w.heap.size w W)
    (fun _ _ _ => False)
    (OwnFrom.and (Own.from (fun s A B row hs hg hr => ⟨cell_kept hs.1 hg hr, (frozen_kept hs.1 hg hr).trans hs.2⟩) _) (ownFrom_below (Nat.le_refl _) (by simp; omega)))
    (fun _ _ _ _ _ hs _ _ => hs)
    ⟨⟨c0, f0⟩, hB0⟩
    (fun x => { tmps := #[.agg #[.int .i64 9497, .int .i64 9503, .int .i64 96], .pointer (some ⟨w.heap.size, 0, none⟩), .int .i64 0, .pointer (some ⟨w.heap.size + 1, 0, none⟩), .agg #[.int .i64 9497, .int .i64 9503, .int .i64 96], .func (.func 30) #[] #[.pointer (some ⟨w.heap.size + 1 + 1, 0, none⟩)], .int .i64 x, undef, undef, undef], defers := [] }) ?assign ?body ?done ?stop
  case assign =>
    intro l x W K hK
    gi_wp2
    simpa using hK
  case body =>
    rintro l pre x W ⟨⟨hc, hf⟩, hB⟩ hlt
    have hlen : wrap64 ((pre.length : Int) + 1) = (pre.length : Int) + 1 := by
      rcases pre with _ | ⟨y, _ | ⟨z, r⟩⟩
      · simp [wrap64]
      · simp [wrap64]
      · exact absurd hlt (by simp)
    gi_wp2
    exact ⟨KeepsOthers.setCell _ _ _, fun hb => ⟨(World.cell?_setCell_other _ _ _ _ (by simp)).trans hb.1, (World.cell?_setCell_other _ _ _ _ (by simp)).trans hb.2.1, (World.cell?_setCell_other _ _ _ _ (by simp)).trans hb.2.2⟩, ⟨by rw [show ((pre ++ [x]).length : Int) = (pre.length : Int) + 1 from by simp]; exact World.cell?_setCell_same' _ _ _ (by rw [hc]; rfl), by rw [World.frozen?_setCell]; exact hf⟩, hB.setCell (p := ⟨w.heap.size + 1, 0, none⟩) (by simp) _⟩
  case done =>
    rintro D ys W hD rfl ⟨⟨hc, hf⟩, hB⟩ hK
    gi_wp2
    refine ⟨by simp, .inl ⟨_, _, rfl, run_takeDeferred hK, ?_⟩⟩
    exact ⟨_, results_tmp rfl _ _ _, rfl, hB.trans (belowK_b (w := w) (Nat.le_refl _) W D _ _ (by simp at hD; omega) hK rfl rfl)⟩
  case stop =>
    rintro D c pre W _ _ h _
    exact h.elim
theorem count_ok (w : World) : Calls Tryd.prog 12 #[.agg #[.int .i64 9497, .int .i64 9503, .int .i64 96]] w fun e W' => e = .returned (.int .i64 2) ∧ Below w.heap.size w W' :=
  (callsIn_wide (n := 4)).1 (count_in Fence.wide 4 trivial trivial trivial trivial trivial trivial rfl (by omega) w)
end Go.Proofs.YtngkbnaehkailaaDoor
