import Derived.Test.YtblgllngkbjfgaaText
import Derived.Test.YtblgllngkbjfgaaNeA
namespace Go.Proofs.Ytblgllngkbjfgaa
open Go Go.RowKit Eng
set_option linter.unusedVariables false
set_option linter.unusedSimpArgs false

set_option maxHeartbeats 4000000 in
set_option maxRecDepth 100000 in
theorem upper_ok (c : Int) (w0 : World) : FnC Try.prog 39 [.int .u8 c] w0 fun v w' => v = .bool (upB c) := by
  refine fnc (N := 9) Try.func39 rfl rfl rfl ?_
  refine WC.seq ?_
  refine WC.region ?_
  refine SL.pure rfl rfl rfl (PureOp.assign rfl) ?_
  refine SL.nil_then ?_
  refine WC.seq ?_
  refine WC.region ?_
  refine SL.pure rfl rfl rfl (PureOp.move rfl) ?_
  refine SL.pure rfl rfl rfl (PureOp.geq rfl rfl) ?_
  refine SL.pure rfl rfl rfl (PureOp.move rfl) ?_
  refine SL.newg 5 true rfl ?_
  refine SL.gpure (c := 1) rfl rfl rfl rfl rfl rfl rfl (PureOp.move rfl) ?_
  refine SL.gpure (c := 1) rfl rfl rfl rfl rfl rfl rfl (PureOp.leq rfl rfl) ?_
  refine SL.pure rfl rfl rfl (PureOp.and_ rfl rfl rfl rfl) ?_
  refine SL.pure rfl rfl rfl (PureOp.assign rfl) ?_
  refine SL.nil_then ?_
  refine WC.ret ?_
  refine QX.ret1 rfl rfl ?_
  intro w hw
  rfl

set_option maxHeartbeats 4000000 in
set_option maxRecDepth 100000 in
theorem digit_ok (c : Int) (w0 : World) : FnC Try.prog 40 [.int .u8 c] w0 fun v w' => v = .bool (dgB c) := by
  refine fnc (N := 9) Try.func40 rfl rfl rfl ?_
  refine WC.seq ?_
  refine WC.region ?_
  refine SL.pure rfl rfl rfl (PureOp.assign rfl) ?_
  refine SL.nil_then ?_
  refine WC.seq ?_
  refine WC.region ?_
  refine SL.pure rfl rfl rfl (PureOp.move rfl) ?_
  refine SL.pure rfl rfl rfl (PureOp.geq rfl rfl) ?_
  refine SL.pure rfl rfl rfl (PureOp.move rfl) ?_
  refine SL.newg 5 true rfl ?_
  refine SL.gpure (c := 1) rfl rfl rfl rfl rfl rfl rfl (PureOp.move rfl) ?_
  refine SL.gpure (c := 1) rfl rfl rfl rfl rfl rfl rfl (PureOp.leq rfl rfl) ?_
  refine SL.pure rfl rfl rfl (PureOp.and_ rfl rfl rfl rfl) ?_
  refine SL.pure rfl rfl rfl (PureOp.assign rfl) ?_
  refine SL.nil_then ?_
  refine WC.ret ?_
  refine QX.ret1 rfl rfl ?_
  intro w hw
  rfl

set_option maxHeartbeats 4000000 in
set_option maxRecDepth 100000 in
theorem digits0 (n : Nat) (hn : n < 10) (w0 : World) : FnC Try.prog 45 [.int .u64 ((n : Nat) : Int)] w0 fun v w' => v = .string (digF 0 n) := by
  refine fnc (N := 19) Try.func45 rfl rfl rfl ?_
  refine WC.seq ?_
  refine WC.region ?_
  refine SL.pure rfl rfl rfl (PureOp.assign rfl) ?_
  refine SL.nil_then ?_
  refine WC.seq ?_
  refine WC.seq ?_
  refine WC.region ?_
  refine SL.pure rfl rfl rfl (PureOp.move rfl) ?_
  refine SL.pure rfl rfl rfl (PureOp.lss rfl rfl) ?_
  refine SL.nil_then ?_
  refine WC.cond rfl (fun h1 => ?_) (fun h1 => ?_)
  · try simp only [Bool.and_eq_true, Bool.or_eq_true, Bool.not_eq_true', Bool.not_eq_false', Bool.and_eq_false_iff, Bool.or_eq_false_iff, decide_eq_true_eq, decide_eq_false_iff_not, Int.not_lt, Int.not_le, ne_eq, Decidable.not_not] at h1
    refine WC.seq ?_
    refine WC.region ?_
    refine SL.pure rfl rfl rfl (PureOp.move rfl) ?_
    refine SL.pure rfl rfl rfl (PureOp.move rfl) ?_
    refine SL.pure rfl rfl rfl (PureOp.addu rfl rfl (fun _ => by (first | (exact u64_id (by omega)) | (exact ⟨by decide, u64_id (by omega)⟩) | (exact ⟨by decide, u64_id (by have q := Nat.div_le_self n 10; show 0 ≤ ((n / 10 : Nat) : Int) ∧ ((n / 10 : Nat) : Int) ≤ _; omega)⟩) | (exact u64_id (by show 0 ≤ ((n % 10 : Nat) : Int) + 1 ∧ ((n % 10 : Nat) : Int) + 1 ≤ _; omega)) | (refine ⟨by omega, by omega, ?_⟩; show _ ≤ (10 : Int); omega) | (refine ⟨by show 0 ≤ ((n % 10 : Nat) : Int); omega, by show ((n % 10 : Nat) : Int) ≤ ((n % 10 : Nat) : Int) + 1; omega, ?_⟩; show ((n % 10 : Nat) : Int) + 1 ≤ (10 : Int); omega) | decide | (rw [ByteArray.size_append]; omega) | omega))) ?_
    refine SL.pure rfl rfl rfl (PureOp.sliceslh Try.underlying9 rfl rfl rfl (fun _ => by (first | (exact u64_id (by omega)) | (exact ⟨by decide, u64_id (by omega)⟩) | (exact ⟨by decide, u64_id (by have q := Nat.div_le_self n 10; show 0 ≤ ((n / 10 : Nat) : Int) ∧ ((n / 10 : Nat) : Int) ≤ _; omega)⟩) | (exact u64_id (by show 0 ≤ ((n % 10 : Nat) : Int) + 1 ∧ ((n % 10 : Nat) : Int) + 1 ≤ _; omega)) | (refine ⟨by omega, by omega, ?_⟩; show _ ≤ (10 : Int); omega) | (refine ⟨by show 0 ≤ ((n % 10 : Nat) : Int); omega, by show ((n % 10 : Nat) : Int) ≤ ((n % 10 : Nat) : Int) + 1; omega, ?_⟩; show ((n % 10 : Nat) : Int) + 1 ≤ (10 : Int); omega) | decide | (rw [ByteArray.size_append]; omega) | omega))) ?_
    refine SL.pure rfl rfl rfl (PureOp.assign rfl) ?_
    refine SL.nil_then ?_
    refine WC.ret ?_
    refine QX.ret_then ?_
    refine QX.ret1 rfl rfl ?_
    intro w hw
    rfl
  · try simp only [Bool.and_eq_true, Bool.or_eq_true, Bool.not_eq_true', Bool.not_eq_false', Bool.and_eq_false_iff, Bool.or_eq_false_iff, decide_eq_true_eq, decide_eq_false_iff_not, Int.not_lt, Int.not_le, ne_eq, Decidable.not_not] at h1
    exact absurd h1 (by omega)
set_option maxHeartbeats 4000000 in
set_option maxRecDepth 100000 in
theorem digits1 (k : Nat) (hk : k + 1 ≤ 19) (ih : ∀ n, n < 10 ^ (k + 1) → k ≤ 19 → ∀ w0, FnC Try.prog 45 [.int .u64 ((n : Nat) : Int)] w0 fun v w' => v = .string (digF k n)) (n : Nat) (hn : n < 10 ^ (k + 1 + 1)) (hn64 : n < 18446744073709551616) (w0 : World) : FnC Try.prog 45 [.int .u64 ((n : Nat) : Int)] w0 fun v w' => v = .string (digF (k + 1) n) := by
  refine fnc (N := 19) Try.func45 rfl rfl rfl ?_
  refine WC.seq ?_
  refine WC.region ?_
  refine SL.pure rfl rfl rfl (PureOp.assign rfl) ?_
  refine SL.nil_then ?_
  refine WC.seq ?_
  refine WC.seq ?_
  refine WC.region ?_
  refine SL.pure rfl rfl rfl (PureOp.move rfl) ?_
  refine SL.pure rfl rfl rfl (PureOp.lss rfl rfl) ?_
  refine SL.nil_then ?_
  refine WC.cond rfl (fun h1 => ?_) (fun h1 => ?_)
  · try simp only [Bool.and_eq_true, Bool.or_eq_true, Bool.not_eq_true', Bool.not_eq_false', Bool.and_eq_false_iff, Bool.or_eq_false_iff, decide_eq_true_eq, decide_eq_false_iff_not, Int.not_lt, Int.not_le, ne_eq, Decidable.not_not] at h1
    refine WC.seq ?_
    refine WC.region ?_
    refine SL.pure rfl rfl rfl (PureOp.move rfl) ?_
    refine SL.pure rfl rfl rfl (PureOp.move rfl) ?_
    refine SL.pure rfl rfl rfl (PureOp.addu rfl rfl (fun _ => by (first | (exact u64_id (by omega)) | (exact ⟨by decide, u64_id (by omega)⟩) | (exact ⟨by decide, u64_id (by have q := Nat.div_le_self n 10; show 0 ≤ ((n / 10 : Nat) : Int) ∧ ((n / 10 : Nat) : Int) ≤ _; omega)⟩) | (exact u64_id (by show 0 ≤ ((n % 10 : Nat) : Int) + 1 ∧ ((n % 10 : Nat) : Int) + 1 ≤ _; omega)) | (refine ⟨by omega, by omega, ?_⟩; show _ ≤ (10 : Int); omega) | (refine ⟨by show 0 ≤ ((n % 10 : Nat) : Int); omega, by show ((n % 10 : Nat) : Int) ≤ ((n % 10 : Nat) : Int) + 1; omega, ?_⟩; show ((n % 10 : Nat) : Int) + 1 ≤ (10 : Int); omega) | decide | (have q1 := digF_size k (n / 10); have q2 := size_extract_le dS (n % 10) (n % 10 + 1); show (digF k (n / 10)).size + (dS.extract (n % 10) (n % 10 + 1)).size ≤ _; omega) | omega))) ?_
    refine SL.pure rfl rfl rfl (PureOp.sliceslh Try.underlying9 rfl rfl rfl (fun _ => by (first | (exact u64_id (by omega)) | (exact ⟨by decide, u64_id (by omega)⟩) | (exact ⟨by decide, u64_id (by have q := Nat.div_le_self n 10; show 0 ≤ ((n / 10 : Nat) : Int) ∧ ((n / 10 : Nat) : Int) ≤ _; omega)⟩) | (exact u64_id (by show 0 ≤ ((n % 10 : Nat) : Int) + 1 ∧ ((n % 10 : Nat) : Int) + 1 ≤ _; omega)) | (refine ⟨by omega, by omega, ?_⟩; show _ ≤ (10 : Int); omega) | (refine ⟨by show 0 ≤ ((n % 10 : Nat) : Int); omega, by show ((n % 10 : Nat) : Int) ≤ ((n % 10 : Nat) : Int) + 1; omega, ?_⟩; show ((n % 10 : Nat) : Int) + 1 ≤ (10 : Int); omega) | decide | (have q1 := digF_size k (n / 10); have q2 := size_extract_le dS (n % 10) (n % 10 + 1); show (digF k (n / 10)).size + (dS.extract (n % 10) (n % 10 + 1)).size ≤ _; omega) | omega))) ?_
    refine SL.pure rfl rfl rfl (PureOp.assign rfl) ?_
    refine SL.nil_then ?_
    refine WC.ret ?_
    refine QX.ret_then ?_
    refine QX.ret1 rfl rfl ?_
    intro w hw
    refine congrArg Value.string ?_
    rw [digF, if_pos (by omega)]; rfl
  · try simp only [Bool.and_eq_true, Bool.or_eq_true, Bool.not_eq_true', Bool.not_eq_false', Bool.and_eq_false_iff, Bool.or_eq_false_iff, decide_eq_true_eq, decide_eq_false_iff_not, Int.not_lt, Int.not_le, ne_eq, Decidable.not_not] at h1
    refine WC.skip ?_
    refine QX.then_ ?_
    refine WC.seq ?_
    refine WC.quiet rfl (by kernel_rfl) ?_
    refine SQ.pure rfl rfl rfl (PureOp.move rfl) ?_
    refine SQ.pure rfl rfl rfl (PureOp.quou rfl rfl (fun _ => by (first | (exact u64_id (by omega)) | (exact ⟨by decide, u64_id (by omega)⟩) | (exact ⟨by decide, u64_id (by have q := Nat.div_le_self n 10; show 0 ≤ ((n / 10 : Nat) : Int) ∧ ((n / 10 : Nat) : Int) ≤ _; omega)⟩) | (exact u64_id (by show 0 ≤ ((n % 10 : Nat) : Int) + 1 ∧ ((n % 10 : Nat) : Int) + 1 ≤ _; omega)) | (refine ⟨by omega, by omega, ?_⟩; show _ ≤ (10 : Int); omega) | (refine ⟨by show 0 ≤ ((n % 10 : Nat) : Int); omega, by show ((n % 10 : Nat) : Int) ≤ ((n % 10 : Nat) : Int) + 1; omega, ?_⟩; show ((n % 10 : Nat) : Int) + 1 ≤ (10 : Int); omega) | decide | (have q1 := digF_size k (n / 10); have q2 := size_extract_le dS (n % 10) (n % 10 + 1); show (digF k (n / 10)).size + (dS.extract (n % 10) (n % 10 + 1)).size ≤ _; omega) | omega))) ?_
    refine SQ.calle rfl rfl rfl rfl rfl rfl callable45 (fun w hw => ih (n / 10) (by have := Nat.pow_succ 10 (k + 1); omega) (by omega) w) ?_
    refine SQ.pure rfl rfl rfl (PureOp.move rfl) ?_
    refine SQ.pure rfl rfl rfl (PureOp.rem rfl rfl (fun _ => by (first | (exact u64_id (by omega)) | (exact ⟨by decide, u64_id (by omega)⟩) | (exact ⟨by decide, u64_id (by have q := Nat.div_le_self n 10; show 0 ≤ ((n / 10 : Nat) : Int) ∧ ((n / 10 : Nat) : Int) ≤ _; omega)⟩) | (exact u64_id (by show 0 ≤ ((n % 10 : Nat) : Int) + 1 ∧ ((n % 10 : Nat) : Int) + 1 ≤ _; omega)) | (refine ⟨by omega, by omega, ?_⟩; show _ ≤ (10 : Int); omega) | (refine ⟨by show 0 ≤ ((n % 10 : Nat) : Int); omega, by show ((n % 10 : Nat) : Int) ≤ ((n % 10 : Nat) : Int) + 1; omega, ?_⟩; show ((n % 10 : Nat) : Int) + 1 ≤ (10 : Int); omega) | decide | (have q1 := digF_size k (n / 10); have q2 := size_extract_le dS (n % 10) (n % 10 + 1); show (digF k (n / 10)).size + (dS.extract (n % 10) (n % 10 + 1)).size ≤ _; omega) | omega))) ?_
    refine SQ.pure rfl rfl rfl (PureOp.move rfl) ?_
    refine SQ.pure rfl rfl rfl (PureOp.rem rfl rfl (fun _ => by (first | (exact u64_id (by omega)) | (exact ⟨by decide, u64_id (by omega)⟩) | (exact ⟨by decide, u64_id (by have q := Nat.div_le_self n 10; show 0 ≤ ((n / 10 : Nat) : Int) ∧ ((n / 10 : Nat) : Int) ≤ _; omega)⟩) | (exact u64_id (by show 0 ≤ ((n % 10 : Nat) : Int) + 1 ∧ ((n % 10 : Nat) : Int) + 1 ≤ _; omega)) | (refine ⟨by omega, by omega, ?_⟩; show _ ≤ (10 : Int); omega) | (refine ⟨by show 0 ≤ ((n % 10 : Nat) : Int); omega, by show ((n % 10 : Nat) : Int) ≤ ((n % 10 : Nat) : Int) + 1; omega, ?_⟩; show ((n % 10 : Nat) : Int) + 1 ≤ (10 : Int); omega) | decide | (have q1 := digF_size k (n / 10); have q2 := size_extract_le dS (n % 10) (n % 10 + 1); show (digF k (n / 10)).size + (dS.extract (n % 10) (n % 10 + 1)).size ≤ _; omega) | omega))) ?_
    refine SQ.pure rfl rfl rfl (PureOp.addu rfl rfl (fun _ => by (first | (exact u64_id (by omega)) | (exact ⟨by decide, u64_id (by omega)⟩) | (exact ⟨by decide, u64_id (by have q := Nat.div_le_self n 10; show 0 ≤ ((n / 10 : Nat) : Int) ∧ ((n / 10 : Nat) : Int) ≤ _; omega)⟩) | (exact u64_id (by show 0 ≤ ((n % 10 : Nat) : Int) + 1 ∧ ((n % 10 : Nat) : Int) + 1 ≤ _; omega)) | (refine ⟨by omega, by omega, ?_⟩; show _ ≤ (10 : Int); omega) | (refine ⟨by show 0 ≤ ((n % 10 : Nat) : Int); omega, by show ((n % 10 : Nat) : Int) ≤ ((n % 10 : Nat) : Int) + 1; omega, ?_⟩; show ((n % 10 : Nat) : Int) + 1 ≤ (10 : Int); omega) | decide | (have q1 := digF_size k (n / 10); have q2 := size_extract_le dS (n % 10) (n % 10 + 1); show (digF k (n / 10)).size + (dS.extract (n % 10) (n % 10 + 1)).size ≤ _; omega) | omega))) ?_
    refine SQ.pure rfl rfl rfl (PureOp.sliceslh Try.underlying9 rfl rfl rfl (fun _ => by (first | (exact u64_id (by omega)) | (exact ⟨by decide, u64_id (by omega)⟩) | (exact ⟨by decide, u64_id (by have q := Nat.div_le_self n 10; show 0 ≤ ((n / 10 : Nat) : Int) ∧ ((n / 10 : Nat) : Int) ≤ _; omega)⟩) | (exact u64_id (by show 0 ≤ ((n % 10 : Nat) : Int) + 1 ∧ ((n % 10 : Nat) : Int) + 1 ≤ _; omega)) | (refine ⟨by omega, by omega, ?_⟩; show _ ≤ (10 : Int); omega) | (refine ⟨by show 0 ≤ ((n % 10 : Nat) : Int); omega, by show ((n % 10 : Nat) : Int) ≤ ((n % 10 : Nat) : Int) + 1; omega, ?_⟩; show ((n % 10 : Nat) : Int) + 1 ≤ (10 : Int); omega) | decide | (have q1 := digF_size k (n / 10); have q2 := size_extract_le dS (n % 10) (n % 10 + 1); show (digF k (n / 10)).size + (dS.extract (n % 10) (n % 10 + 1)).size ≤ _; omega) | omega))) ?_
    refine SQ.pure rfl rfl rfl (PureOp.adds rfl rfl (fun _ => by (first | (exact u64_id (by omega)) | (exact ⟨by decide, u64_id (by omega)⟩) | (exact ⟨by decide, u64_id (by have q := Nat.div_le_self n 10; show 0 ≤ ((n / 10 : Nat) : Int) ∧ ((n / 10 : Nat) : Int) ≤ _; omega)⟩) | (exact u64_id (by show 0 ≤ ((n % 10 : Nat) : Int) + 1 ∧ ((n % 10 : Nat) : Int) + 1 ≤ _; omega)) | (refine ⟨by omega, by omega, ?_⟩; show _ ≤ (10 : Int); omega) | (refine ⟨by show 0 ≤ ((n % 10 : Nat) : Int); omega, by show ((n % 10 : Nat) : Int) ≤ ((n % 10 : Nat) : Int) + 1; omega, ?_⟩; show ((n % 10 : Nat) : Int) + 1 ≤ (10 : Int); omega) | decide | (have q1 := digF_size k (n / 10); have q2 := size_extract_le dS (n % 10) (n % 10 + 1); show (digF k (n / 10)).size + (dS.extract (n % 10) (n % 10 + 1)).size ≤ _; omega) | omega))) ?_
    refine SQ.pure rfl rfl rfl (PureOp.assign rfl) ?_
    refine SQ.nil_then ?_
    refine WC.ret ?_
    refine QX.ret1 rfl rfl ?_
    intro w hw
    refine congrArg Value.string ?_
    rw [digF, if_neg (by omega)]; rfl
theorem digits_ok : ∀ (k n : Nat), n < 10 ^ (k + 1) → k ≤ 19 → n < 18446744073709551616 → ∀ w0, FnC Try.prog 45 [.int .u64 ((n : Nat) : Int)] w0 fun v w' => v = .string (digF k n)
  | 0, n, h, _, _, w0 => digits0 n (by simpa using h) w0
  | k + 1, n, h, hk, h64, w0 => by
    refine digits1 k hk (fun m hm _ w => digits_ok k m hm (by omega) ?_ w) n h h64 w0
    have : 10 ^ (k + 1) ≤ 10 ^ 19 := Nat.pow_le_pow_right (by decide) hk
    have e : (10 : Nat) ^ 19 = 10000000000000000000 := by decide
    omega
theorem digits64 (z : Int) (h : 0 ≤ z ∧ z ≤ 9223372036854775808) (w0 : World) : FnC Try.prog 45 [.int .u64 z] w0 fun v w' => v = .string (digF 19 z.toNat) := by
  obtain ⟨n, rfl⟩ : ∃ n : Nat, z = n := ⟨z.toNat, by omega⟩
  have e : (10 : Nat) ^ 20 = 100000000000000000000 := by decide
  exact digits_ok 19 n (by show n < 10 ^ 20; omega) (by decide) (by omega) w0
set_option maxHeartbeats 4000000 in
set_option maxRecDepth 100000 in
theorem decimal_ok (n : Int) (hn : -9223372036854775808 ≤ n ∧ n ≤ 9223372036854775807) (w0 : World) : FnC Try.prog 38 [.int .i64 n] w0 fun v w' => v = .string (decS n) := by
  refine fnc (N := 15) Try.func38 rfl rfl rfl ?_
  refine WC.seq ?_
  refine WC.region ?_
  refine SL.pure rfl rfl rfl (PureOp.assign rfl) ?_
  refine SL.nil_then ?_
  refine WC.seq ?_
  refine WC.seq ?_
  refine WC.region ?_
  refine SL.pure rfl rfl rfl (PureOp.move rfl) ?_
  refine SL.pure rfl rfl rfl (PureOp.lss rfl rfl) ?_
  refine SL.nil_then ?_
  refine WC.cond rfl (fun h1 => ?_) (fun h1 => ?_)
  · try simp only [Bool.and_eq_true, Bool.or_eq_true, Bool.not_eq_true', Bool.not_eq_false', Bool.and_eq_false_iff, Bool.or_eq_false_iff, decide_eq_true_eq, decide_eq_false_iff_not, Int.not_lt, Int.not_le, ne_eq, Decidable.not_not] at h1
    refine WC.seq ?_
    refine WC.region ?_
    refine SL.pure rfl rfl rfl (PureOp.move rfl) ?_
    refine SL.pure rfl rfl rfl (PureOp.add rfl rfl (fun _ => by (first | omega | (have e := u64_id (z := -(n + 1)) (by omega); rw [e]; exact u64_id (by omega)) | (show 1 + (digF 19 _).size ≤ _; have q := digF_size 19 (IntKind.u64.wrap (-(n + 1)) + 1).toNat; omega)))) ?_
    refine SL.pure rfl rfl rfl (PureOp.neg rfl (fun _ => by (first | omega | (have e := u64_id (z := -(n + 1)) (by omega); rw [e]; exact u64_id (by omega)) | (show 1 + (digF 19 _).size ≤ _; have q := digF_size 19 (IntKind.u64.wrap (-(n + 1)) + 1).toNat; omega)))) ?_
    refine SL.pure rfl rfl rfl (PureOp.conv rfl Try.underlying3 Try.underlying66) ?_
    refine SL.pure rfl rfl rfl (PureOp.addu rfl rfl (fun _ => by (first | omega | (have e := u64_id (z := -(n + 1)) (by omega); rw [e]; exact u64_id (by omega)) | (show 1 + (digF 19 _).size ≤ _; have q := digF_size 19 (IntKind.u64.wrap (-(n + 1)) + 1).toNat; omega)))) ?_
    refine SL.calle rfl rfl rfl rfl rfl rfl callable45 (fun w hw => digits64 _ (by first | (have e := u64_id (z := -(n + 1)) (by omega); rw [e]; omega) | (have e := u64_id (z := n) (by omega); rw [e]; omega)) w) ?_
    refine SL.pure rfl rfl rfl (PureOp.adds rfl rfl (fun _ => by (first | omega | (have e := u64_id (z := -(n + 1)) (by omega); rw [e]; exact u64_id (by omega)) | (show 1 + (digF 19 _).size ≤ _; have q := digF_size 19 (IntKind.u64.wrap (-(n + 1)) + 1).toNat; omega)))) ?_
    refine SL.pure rfl rfl rfl (PureOp.assign rfl) ?_
    refine SL.nil_then ?_
    refine WC.ret ?_
    refine QX.ret_then ?_
    refine QX.ret1 rfl rfl ?_
    intro w hw
    refine congrArg Value.string ?_
    rw [decS, if_pos (by omega), u64_id (z := -(n + 1)) (by omega), show -(n + 1) + 1 = -n from by omega]
  · try simp only [Bool.and_eq_true, Bool.or_eq_true, Bool.not_eq_true', Bool.not_eq_false', Bool.and_eq_false_iff, Bool.or_eq_false_iff, decide_eq_true_eq, decide_eq_false_iff_not, Int.not_lt, Int.not_le, ne_eq, Decidable.not_not] at h1
    refine WC.skip ?_
    refine QX.then_ ?_
    refine WC.seq ?_
    refine WC.region ?_
    refine SL.pure rfl rfl rfl (PureOp.move rfl) ?_
    refine SL.pure rfl rfl rfl (PureOp.conv rfl Try.underlying3 Try.underlying66) ?_
    refine SL.calle rfl rfl rfl rfl rfl rfl callable45 (fun w hw => digits64 _ (by first | (have e := u64_id (z := -(n + 1)) (by omega); rw [e]; omega) | (have e := u64_id (z := n) (by omega); rw [e]; omega)) w) ?_
    refine SL.pure rfl rfl rfl (PureOp.assign rfl) ?_
    refine SL.nil_then ?_
    refine WC.ret ?_
    refine QX.ret1 rfl rfl ?_
    intro w hw
    refine congrArg Value.string ?_
    rw [decS, if_neg (by omega), u64_id (z := n) (by omega)]

set_option maxHeartbeats 4000000 in
set_option maxRecDepth 100000 in
theorem letters_ok (s : ByteArray) (hsz : s.size ≤ 9223372036854775807) (n : Int) (w0 : World) : FnC Try.prog 48 [.string s, .int .i64 n] w0 fun v w' => v = .bool (letB s n) := by
  refine fnc (N := 21) Try.func48 rfl rfl rfl ?_
  refine WC.seq ?_
  refine WC.region ?_
  refine SL.pure rfl rfl rfl (PureOp.assign rfl) ?_
  refine SL.nil_then ?_
  refine WC.seq ?_
  refine WC.seq ?_
  refine WC.region ?_
  refine SL.pure rfl rfl rfl (PureOp.assign rfl) ?_
  refine SL.nil_then ?_
  refine WC.block ?_
  refine WC.loop (σ := Nat) (fun q_ => [(0, 0, .string s), (1, 0, .int .i64 n), (5, 0, .int .i64 ((q_ : Nat) : Int))]) (fun q_ => []) (fun q_ => q_ ≤ s.size ∧ ∀ j, j < q_ → upB (byteI s j) = true) (fun q_ => s.size - q_) 0 (0) (⟨Nat.zero_le _, fun j hj => absurd hj (by omega)⟩) ⟨rfl, rfl, rfl, rfl, rfl, rfl, trivial⟩ rfl ?_
  rintro k ⟨hk, hI⟩
  refine WC.seq ?_
  refine WC.seq ?_
  refine WC.region ?_
  refine SL.pure rfl rfl rfl (PureOp.move rfl) ?_
  refine SL.pure rfl rfl rfl (PureOp.move rfl) ?_
  refine SL.pure rfl rfl rfl (PureOp.lens rfl Try.underlying9) ?_
  refine SL.pure rfl rfl rfl (PureOp.lss rfl rfl) ?_
  refine SL.nil_then ?_
  refine WC.cond rfl (fun h1 => ?_) (fun h1 => ?_)
  · try simp only [Bool.and_eq_true, Bool.or_eq_true, Bool.not_eq_true', Bool.not_eq_false', Bool.and_eq_false_iff, Bool.or_eq_false_iff, decide_eq_true_eq, decide_eq_false_iff_not, Int.not_lt, Int.not_le, ne_eq, Decidable.not_not] at h1
    refine WC.skip ?_
    refine QX.then_ ?_
    refine WC.seq ?_
    refine WC.block ?_
    refine WC.seq ?_
    refine WC.region ?_
    refine SL.pure rfl rfl rfl (PureOp.move rfl) ?_
    refine SL.pure rfl rfl rfl (PureOp.move rfl) ?_
    refine SL.pure rfl rfl rfl (PureOp.indexs Try.underlying9 rfl rfl (fun _ => by omega)) ?_
    refine SL.calle rfl rfl rfl rfl rfl rfl callable39 (fun w hw => upper_ok _ w) ?_
    refine SL.pure rfl rfl rfl (PureOp.not rfl) ?_
    refine SL.nil_then ?_
    refine WC.cond rfl (fun h2 => ?_) (fun h2 => ?_)
    · try simp only [Bool.and_eq_true, Bool.or_eq_true, Bool.not_eq_true', Bool.not_eq_false', Bool.and_eq_false_iff, Bool.or_eq_false_iff, decide_eq_true_eq, decide_eq_false_iff_not, Int.not_lt, Int.not_le, ne_eq, Decidable.not_not] at h2
      refine WC.seq ?_
      refine WC.region ?_
      refine SL.pure rfl rfl rfl (PureOp.assign rfl) ?_
      refine SL.nil_then ?_
      refine WC.ret ?_
      refine QX.ret_in ?_
      refine QX.ret_then ?_
      refine QX.ret_then ?_
      refine QX.ret_in ?_
      refine QX.ret_then ?_
      refine QX.ret1 rfl rfl ?_
      intro w hw
      rw [letB, allS_false (i := k) (by omega) h2]; rfl
    · try simp only [Bool.and_eq_true, Bool.or_eq_true, Bool.not_eq_true', Bool.not_eq_false', Bool.and_eq_false_iff, Bool.or_eq_false_iff, decide_eq_true_eq, decide_eq_false_iff_not, Int.not_lt, Int.not_le, ne_eq, Decidable.not_not] at h2
      refine WC.skip ?_
      refine QX.normal_in ?_
      refine QX.then_ ?_
      refine WC.region ?_
      refine SL.pure rfl rfl rfl (PureOp.move rfl) ?_
      refine SL.pure rfl rfl rfl (PureOp.addN (k := 1) rfl rfl (fun _ => by omega)) ?_
      refine SL.pure rfl rfl rfl (PureOp.assign rfl) ?_
      refine SL.nil ?_
      refine QX.round 0 (k + 1) ⟨⟨by omega, fun j hj => by by_cases q : j = k; (subst q; simpa using h2); exact hI j (by omega)⟩, by first | omega | (dsimp only; omega)⟩ ⟨rfl, rfl, rfl, rfl, rfl, rfl, trivial⟩ rfl
  · try simp only [Bool.and_eq_true, Bool.or_eq_true, Bool.not_eq_true', Bool.not_eq_false', Bool.and_eq_false_iff, Bool.or_eq_false_iff, decide_eq_true_eq, decide_eq_false_iff_not, Int.not_lt, Int.not_le, ne_eq, Decidable.not_not] at h1
    refine WC.exit ?_
    refine QX.exit_then ?_
    refine QX.exit_then ?_
    refine QX.exit_hit ?_
    refine QX.then_ ?_
    refine WC.seq ?_
    refine WC.region ?_
    refine SL.pure rfl rfl rfl (PureOp.move rfl) ?_
    refine SL.pure rfl rfl rfl (PureOp.lens rfl Try.underlying9) ?_
    refine SL.pure rfl rfl rfl (PureOp.move rfl) ?_
    refine SL.pure rfl rfl rfl (PureOp.eql rfl rfl) ?_
    refine SL.pure rfl rfl rfl (PureOp.assign rfl) ?_
    refine SL.nil_then ?_
    refine WC.ret ?_
    refine QX.ret1 rfl rfl ?_
    intro w hw
    rw [letB, allS_true.2 (fun i hi => hI i (by omega)), Bool.true_and]

set_option maxHeartbeats 4000000 in
set_option maxRecDepth 100000 in
theorem class_ok (s : ByteArray) (hsz : s.size ≤ 9223372036854775807) (w0 : World) : FnC Try.prog 46 [.string s] w0 fun v w' => v = .bool (letB s 1) := by
  refine fnc (N := 5) Try.func46 rfl rfl rfl ?_
  refine WC.seq ?_
  refine WC.region ?_
  refine SL.pure rfl rfl rfl (PureOp.assign rfl) ?_
  refine SL.nil_then ?_
  refine WC.seq ?_
  refine WC.region ?_
  refine SL.pure rfl rfl rfl (PureOp.move rfl) ?_
  refine SL.calle rfl rfl rfl rfl rfl rfl callable48 (fun w hw => letters_ok _ (by omega) _ w) ?_
  refine SL.pure rfl rfl rfl (PureOp.assign rfl) ?_
  refine SL.nil_then ?_
  refine WC.ret ?_
  refine QX.ret1 rfl rfl ?_
  intro w hw
  rfl

set_option maxHeartbeats 4000000 in
set_option maxRecDepth 100000 in
theorem code_ok (s : ByteArray) (hsz : s.size ≤ 9223372036854775807) (a b : Int) (w0 : World) : FnC Try.prog 31 [.string s, .int .i64 a, .int .i64 b] w0 fun v w' => v = .bool (codeB s a b) := by
  refine fnc (N := 36) Try.func31 rfl rfl rfl ?_
  refine WC.seq ?_
  refine WC.region ?_
  refine SL.pure rfl rfl rfl (PureOp.assign rfl) ?_
  refine SL.nil_then ?_
  refine WC.seq ?_
  refine WC.seq ?_
  refine WC.region ?_
  refine SL.pure rfl rfl rfl (PureOp.assign rfl) ?_
  refine SL.nil_then ?_
  refine WC.block ?_
  refine WC.loop (σ := Nat) (fun q_ => [(0, 0, .string s), (1, 0, .int .i64 a), (2, 0, .int .i64 b), (7, 0, .int .i64 ((q_ : Nat) : Int))]) (fun q_ => []) (fun q_ => q_ ≤ s.size ∧ ∀ j, j < q_ → (upB (byteI s j) || dgB (byteI s j)) = true) (fun q_ => s.size - q_) 0 (0) (⟨Nat.zero_le _, fun j hj => absurd hj (by omega)⟩) ⟨rfl, rfl, rfl, rfl, rfl, rfl, rfl, rfl, trivial⟩ rfl ?_
  rintro k ⟨hk, hI⟩
  refine WC.seq ?_
  refine WC.seq ?_
  refine WC.region ?_
  refine SL.pure rfl rfl rfl (PureOp.move rfl) ?_
  refine SL.pure rfl rfl rfl (PureOp.move rfl) ?_
  refine SL.pure rfl rfl rfl (PureOp.lens rfl Try.underlying9) ?_
  refine SL.pure rfl rfl rfl (PureOp.lss rfl rfl) ?_
  refine SL.nil_then ?_
  refine WC.cond rfl (fun h1 => ?_) (fun h1 => ?_)
  · try simp only [Bool.and_eq_true, Bool.or_eq_true, Bool.not_eq_true', Bool.not_eq_false', Bool.and_eq_false_iff, Bool.or_eq_false_iff, decide_eq_true_eq, decide_eq_false_iff_not, Int.not_lt, Int.not_le, ne_eq, Decidable.not_not] at h1
    refine WC.skip ?_
    refine QX.then_ ?_
    refine WC.seq ?_
    refine WC.block ?_
    refine WC.seq ?_
    refine WC.region ?_
    refine SL.pure rfl rfl rfl (PureOp.move rfl) ?_
    refine SL.pure rfl rfl rfl (PureOp.move rfl) ?_
    refine SL.pure rfl rfl rfl (PureOp.indexs Try.underlying9 rfl rfl (fun _ => by omega)) ?_
    refine SL.calle rfl rfl rfl rfl rfl rfl callable39 (fun w hw => upper_ok _ w) ?_
    refine SL.pure rfl rfl rfl (PureOp.not rfl) ?_
    refine SL.pure rfl rfl rfl (PureOp.move rfl) ?_
    refine SL.newg 19 true rfl ?_
    refine SL.gpure (c := 1) rfl rfl rfl rfl rfl rfl rfl (PureOp.move rfl) ?_
    refine SL.gpure (c := 1) rfl rfl rfl rfl rfl rfl rfl (PureOp.move rfl) ?_
    refine SL.gpure (c := 1) rfl rfl rfl rfl rfl rfl rfl (PureOp.indexs Try.underlying9 rfl rfl (by intro hg; simp [gval] at hg; omega)) ?_
    refine SL.gcalle (c := 1) rfl rfl rfl rfl rfl rfl rfl rfl rfl rfl callable40 (by intro hg; simp [gval] at hg; exact (fun w hw => digit_ok _ w)) ?_
    refine SL.gpure (c := 1) rfl rfl rfl rfl rfl rfl rfl (PureOp.not rfl) ?_
    refine SL.pure rfl rfl rfl (PureOp.and_ rfl rfl rfl rfl) ?_
    refine SL.nil_then ?_
    refine WC.cond rfl (fun h2 => ?_) (fun h2 => ?_)
    · try simp only [Bool.and_eq_true, Bool.or_eq_true, Bool.not_eq_true', Bool.not_eq_false', Bool.and_eq_false_iff, Bool.or_eq_false_iff, decide_eq_true_eq, decide_eq_false_iff_not, Int.not_lt, Int.not_le, ne_eq, Decidable.not_not] at h2
      refine WC.seq ?_
      refine WC.region ?_
      refine SL.pure rfl rfl rfl (PureOp.assign rfl) ?_
      refine SL.nil_then ?_
      refine WC.ret ?_
      refine QX.ret_in ?_
      refine QX.ret_then ?_
      refine QX.ret_then ?_
      refine QX.ret_in ?_
      refine QX.ret_then ?_
      refine QX.ret1 rfl rfl ?_
      intro w hw
      rw [codeB, allS_false (i := k) (by omega) (by simpa using h2)]; rfl
    · try simp only [Bool.and_eq_true, Bool.or_eq_true, Bool.not_eq_true', Bool.not_eq_false', Bool.and_eq_false_iff, Bool.or_eq_false_iff, decide_eq_true_eq, decide_eq_false_iff_not, Int.not_lt, Int.not_le, ne_eq, Decidable.not_not] at h2
      refine WC.skip ?_
      refine QX.normal_in ?_
      refine QX.then_ ?_
      refine WC.region ?_
      refine SL.pure rfl rfl rfl (PureOp.move rfl) ?_
      refine SL.pure rfl rfl rfl (PureOp.addN (k := 1) rfl rfl (fun _ => by omega)) ?_
      refine SL.pure rfl rfl rfl (PureOp.assign rfl) ?_
      refine SL.nil ?_
      refine QX.round 0 (k + 1) ⟨⟨by omega, fun j hj => by by_cases q : j = k; (subst q; simp only [Bool.or_eq_true]; simpa using h2); exact hI j (by omega)⟩, by first | omega | (dsimp only; omega)⟩ ⟨rfl, rfl, rfl, rfl, rfl, rfl, rfl, rfl, trivial⟩ rfl
  · try simp only [Bool.and_eq_true, Bool.or_eq_true, Bool.not_eq_true', Bool.not_eq_false', Bool.and_eq_false_iff, Bool.or_eq_false_iff, decide_eq_true_eq, decide_eq_false_iff_not, Int.not_lt, Int.not_le, ne_eq, Decidable.not_not] at h1
    refine WC.exit ?_
    refine QX.exit_then ?_
    refine QX.exit_then ?_
    refine QX.exit_hit ?_
    refine QX.then_ ?_
    refine WC.seq ?_
    refine WC.region ?_
    refine SL.pure rfl rfl rfl (PureOp.move rfl) ?_
    refine SL.pure rfl rfl rfl (PureOp.lens rfl Try.underlying9) ?_
    refine SL.pure rfl rfl rfl (PureOp.move rfl) ?_
    refine SL.pure rfl rfl rfl (PureOp.geq rfl rfl) ?_
    refine SL.pure rfl rfl rfl (PureOp.move rfl) ?_
    refine SL.newg 30 true rfl ?_
    refine SL.gpure (c := 1) rfl rfl rfl rfl rfl rfl rfl (PureOp.move rfl) ?_
    refine SL.gpure (c := 1) rfl rfl rfl rfl rfl rfl rfl (PureOp.lens rfl Try.underlying9) ?_
    refine SL.gpure (c := 1) rfl rfl rfl rfl rfl rfl rfl (PureOp.move rfl) ?_
    refine SL.gpure (c := 1) rfl rfl rfl rfl rfl rfl rfl (PureOp.leq rfl rfl) ?_
    refine SL.pure rfl rfl rfl (PureOp.and_ rfl rfl rfl rfl) ?_
    refine SL.pure rfl rfl rfl (PureOp.assign rfl) ?_
    refine SL.nil_then ?_
    refine WC.ret ?_
    refine QX.ret1 rfl rfl ?_
    intro w hw
    rw [codeB, allS_true.2 (fun i hi => hI i (by omega)), Bool.true_and]

set_option maxHeartbeats 4000000 in
set_option maxRecDepth 100000 in
theorem place_ok (path word : ByteArray) (hp : path.size ≤ 1000) (hwd : word.size ≤ 100) (i : Int) (hi : -9223372036854775808 ≤ i ∧ i ≤ 9223372036854775807) (w0 : World) : FnC Try.prog 30 [.string path, .string word, .int .i64 i] w0 fun v w' => v = .string (placeS path word i) := by
  refine fnc (N := 18) Try.func30 rfl rfl rfl ?_
  refine WC.seq ?_
  refine WC.region ?_
  refine SL.pure rfl rfl rfl (PureOp.assign rfl) ?_
  refine SL.nil_then ?_
  refine WC.seq ?_
  refine WC.seq ?_
  refine WC.region ?_
  refine SL.pure rfl rfl rfl (PureOp.move rfl) ?_
  refine SL.pure rfl rfl rfl (PureOp.neqs rfl rfl) ?_
  refine SL.nil_then ?_
  refine WC.cond rfl (fun h1 => ?_) (fun h1 => ?_)
  · try simp only [Bool.and_eq_true, Bool.or_eq_true, Bool.not_eq_true', Bool.not_eq_false', Bool.and_eq_false_iff, Bool.or_eq_false_iff, decide_eq_true_eq, decide_eq_false_iff_not, Int.not_lt, Int.not_le, ne_eq, Decidable.not_not] at h1
    refine WC.region ?_
    refine SL.pure rfl rfl rfl (PureOp.move rfl) ?_
    refine SL.pure rfl rfl rfl (PureOp.adds rfl rfl (fun _ => by (have q := decS_size i; have e1 : (ByteArray.mk #[32]).size = 1 := rfl; first | omega | (simp only [ByteArray.size_append]; omega)))) ?_
    refine SL.pure rfl rfl rfl (PureOp.assign rfl) ?_
    refine SL.nil_then ?_
    refine WC.seq ?_
    refine WC.region ?_
    refine SL.pure rfl rfl rfl (PureOp.move rfl) ?_
    refine SL.pure rfl rfl rfl (PureOp.move rfl) ?_
    refine SL.pure rfl rfl rfl (PureOp.adds rfl rfl (fun _ => by (have q := decS_size i; have e1 : (ByteArray.mk #[32]).size = 1 := rfl; first | omega | (simp only [ByteArray.size_append]; omega)))) ?_
    refine SL.pure rfl rfl rfl (PureOp.adds rfl rfl (fun _ => by (have q := decS_size i; have e1 : (ByteArray.mk #[32]).size = 1 := rfl; first | omega | (simp only [ByteArray.size_append]; omega)))) ?_
    refine SL.pure rfl rfl rfl (PureOp.move rfl) ?_
    refine SL.calle rfl rfl rfl rfl rfl rfl callable38 (fun w hw => decimal_ok _ (by omega) w) ?_
    refine SL.pure rfl rfl rfl (PureOp.adds rfl rfl (fun _ => by (have q := decS_size i; have e1 : (ByteArray.mk #[32]).size = 1 := rfl; first | omega | (simp only [ByteArray.size_append]; omega)))) ?_
    refine SL.pure rfl rfl rfl (PureOp.assign rfl) ?_
    refine SL.nil_then ?_
    refine WC.ret ?_
    refine QX.ret1 rfl rfl ?_
    intro w hw
    refine congrArg Value.string ?_
    rw [placeS, if_neg (fun q => by rw [bytes_eq.2 q] at h1; cases h1)]
  · try simp only [Bool.and_eq_true, Bool.or_eq_true, Bool.not_eq_true', Bool.not_eq_false', Bool.and_eq_false_iff, Bool.or_eq_false_iff, decide_eq_true_eq, decide_eq_false_iff_not, Int.not_lt, Int.not_le, ne_eq, Decidable.not_not] at h1
    refine WC.skip ?_
    refine QX.then_ ?_
    refine WC.seq ?_
    refine WC.region ?_
    refine SL.pure rfl rfl rfl (PureOp.move rfl) ?_
    refine SL.pure rfl rfl rfl (PureOp.move rfl) ?_
    refine SL.pure rfl rfl rfl (PureOp.adds rfl rfl (fun _ => by (have q := decS_size i; have e1 : (ByteArray.mk #[32]).size = 1 := rfl; first | omega | (simp only [ByteArray.size_append]; omega)))) ?_
    refine SL.pure rfl rfl rfl (PureOp.adds rfl rfl (fun _ => by (have q := decS_size i; have e1 : (ByteArray.mk #[32]).size = 1 := rfl; first | omega | (simp only [ByteArray.size_append]; omega)))) ?_
    refine SL.pure rfl rfl rfl (PureOp.move rfl) ?_
    refine SL.calle rfl rfl rfl rfl rfl rfl callable38 (fun w hw => decimal_ok _ (by omega) w) ?_
    refine SL.pure rfl rfl rfl (PureOp.adds rfl rfl (fun _ => by (have q := decS_size i; have e1 : (ByteArray.mk #[32]).size = 1 := rfl; first | omega | (simp only [ByteArray.size_append]; omega)))) ?_
    refine SL.pure rfl rfl rfl (PureOp.assign rfl) ?_
    refine SL.nil_then ?_
    refine WC.ret ?_
    refine QX.ret1 rfl rfl ?_
    intro w hw
    refine congrArg Value.string ?_
    rw [placeS, if_pos (bytes_eq.1 h1)]

set_option maxHeartbeats 4000000 in
set_option maxRecDepth 100000 in
theorem inrange_ok (nm : ByteArray) (se ov : Int) (cl : List Cl) (ac : Option Addr) (nc cc : Nat) (hnc : nc = cl.length) (hcb : nc ≤ 30) (w0 : World) : FnC Try.prog 41 [.agg #[.string nm, .int .i64 se, .int .i64 ov, .slice ac nc cc]] w0 fun v w' => v = .bool (inR se ov) := by
  refine fnc (N := 21) Try.func41 rfl rfl rfl ?_
  refine WC.seq ?_
  refine WC.region ?_
  refine SL.box rfl rfl rfl (fun b1 hb1 => ?_)
  refine SL.pure rfl rfl rfl (PureOp.assign rfl) ?_
  refine SL.nil_then ?_
  refine WC.seq ?_
  refine WC.region ?_
  refine SL.pure rfl rfl rfl (PureOp.fieldAddrT 1 Try.underlying24 rfl sz3 rfl rfl) ?_
  refine SL.pure rfl rfl rfl (PureOp.load (v := .int .i64 se) Try.underlying3 rfl rfl (fun _ => (CellIs.cells 0 rfl rfl))) ?_
  refine SL.pure rfl rfl rfl (PureOp.geq rfl rfl) ?_
  refine SL.pure rfl rfl rfl (PureOp.move rfl) ?_
  refine SL.newg 6 true rfl ?_
  refine SL.gpure (c := 1) rfl rfl rfl rfl rfl rfl rfl (PureOp.fieldAddrT 1 Try.underlying24 rfl sz3 rfl rfl) ?_
  refine SL.gpure (c := 1) rfl rfl rfl rfl rfl rfl rfl (PureOp.load (v := .int .i64 se) Try.underlying3 rfl rfl (fun _ => (CellIs.cells 0 rfl rfl))) ?_
  refine SL.gpure (c := 1) rfl rfl rfl rfl rfl rfl rfl (PureOp.leq rfl rfl) ?_
  refine SL.pure rfl rfl rfl (PureOp.and_ rfl rfl rfl rfl) ?_
  refine SL.pure rfl rfl rfl (PureOp.move rfl) ?_
  refine SL.newg 11 true rfl ?_
  refine SL.gpure (c := 2) rfl rfl rfl rfl rfl rfl rfl (PureOp.fieldAddrT 2 Try.underlying24 rfl sz3 rfl rfl) ?_
  refine SL.gpure (c := 2) rfl rfl rfl rfl rfl rfl rfl (PureOp.load (v := .int .i64 ov) Try.underlying3 rfl rfl (fun _ => (CellIs.cells 0 rfl rfl))) ?_
  refine SL.gpure (c := 2) rfl rfl rfl rfl rfl rfl rfl (PureOp.geq rfl rfl) ?_
  refine SL.pure rfl rfl rfl (PureOp.and_ rfl rfl rfl rfl) ?_
  refine SL.pure rfl rfl rfl (PureOp.move rfl) ?_
  refine SL.newg 16 true rfl ?_
  refine SL.gpure (c := 3) rfl rfl rfl rfl rfl rfl rfl (PureOp.fieldAddrT 2 Try.underlying24 rfl sz3 rfl rfl) ?_
  refine SL.gpure (c := 3) rfl rfl rfl rfl rfl rfl rfl (PureOp.load (v := .int .i64 ov) Try.underlying3 rfl rfl (fun _ => (CellIs.cells 0 rfl rfl))) ?_
  refine SL.gpure (c := 3) rfl rfl rfl rfl rfl rfl rfl (PureOp.leq rfl rfl) ?_
  refine SL.pure rfl rfl rfl (PureOp.and_ rfl rfl rfl rfl) ?_
  refine SL.pure rfl rfl rfl (PureOp.assign rfl) ?_
  refine SL.nil_then ?_
  refine WC.ret ?_
  refine QX.ret1 rfl rfl ?_
  intro w hw
  rfl

end Go.Proofs.Ytblgllngkbjfgaa
