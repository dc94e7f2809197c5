import Derived.Test.YtblmafknmeicfaaFew
import Derived.Test.YtblmafknmeicfaaMFacts
import Derived.Test.YtblmafknmeicfaaAny
namespace Go.Proofs.Ytblmafknmeicfaa
open Go Go.RowKit Eng
set_option linter.unusedVariables false
set_option linter.unusedSimpArgs false

set_option maxHeartbeats 4000000 in
set_option maxRecDepth 100000 in
theorem upper_ok (c : Int) (w0 : World) : FnC Try.prog 75 [.int .u8 c] w0 fun v w' => v = .bool (upB c) := by
  refine fnc (N := 9) Try.func75 rfl rfl rfl ?_
  refine WC.seq ?_
  refine WC.region ?_
  refine SL.pure rfl rfl rfl (PureOp.assign rfl) ?_
  refine SL.nil_then ?_
  refine WC.seq ?_
  refine WC.region ?_
  refine SL.pure rfl rfl rfl (PureOp.move rfl) ?_
  refine SL.pure rfl rfl rfl (PureOp.geq rfl rfl) ?_
  refine SL.pure rfl rfl rfl (PureOp.move rfl) ?_
  refine SL.newg 5 true rfl ?_
  refine SL.gpure (c := 1) rfl rfl rfl rfl rfl rfl rfl (PureOp.move rfl) ?_
  refine SL.gpure (c := 1) rfl rfl rfl rfl rfl rfl rfl (PureOp.leq rfl rfl) ?_
  refine SL.pure rfl rfl rfl (PureOp.and_ rfl rfl rfl rfl) ?_
  refine SL.pure rfl rfl rfl (PureOp.assign rfl) ?_
  refine SL.nil_then ?_
  refine WC.ret ?_
  refine QX.ret1 rfl rfl ?_
  intro w hw
  rfl

set_option maxHeartbeats 4000000 in
set_option maxRecDepth 100000 in
theorem digit_ok (c : Int) (w0 : World) : FnC Try.prog 76 [.int .u8 c] w0 fun v w' => v = .bool (dgB c) := by
  refine fnc (N := 9) Try.func76 rfl rfl rfl ?_
  refine WC.seq ?_
  refine WC.region ?_
  refine SL.pure rfl rfl rfl (PureOp.assign rfl) ?_
  refine SL.nil_then ?_
  refine WC.seq ?_
  refine WC.region ?_
  refine SL.pure rfl rfl rfl (PureOp.move rfl) ?_
  refine SL.pure rfl rfl rfl (PureOp.geq rfl rfl) ?_
  refine SL.pure rfl rfl rfl (PureOp.move rfl) ?_
  refine SL.newg 5 true rfl ?_
  refine SL.gpure (c := 1) rfl rfl rfl rfl rfl rfl rfl (PureOp.move rfl) ?_
  refine SL.gpure (c := 1) rfl rfl rfl rfl rfl rfl rfl (PureOp.leq rfl rfl) ?_
  refine SL.pure rfl rfl rfl (PureOp.and_ rfl rfl rfl rfl) ?_
  refine SL.pure rfl rfl rfl (PureOp.assign rfl) ?_
  refine SL.nil_then ?_
  refine WC.ret ?_
  refine QX.ret1 rfl rfl ?_
  intro w hw
  rfl

set_option maxHeartbeats 4000000 in
set_option maxRecDepth 100000 in
theorem digits0 (n : Nat) (hn : n < 10) (w0 : World) : FnC Try.prog 56 [.int .u64 ((n : Nat) : Int)] w0 fun v w' => v = .string (digF 0 n) := by
  refine fnc (N := 19) Try.func56 rfl rfl rfl ?_
  refine WC.seq ?_
  refine WC.region ?_
  refine SL.pure rfl rfl rfl (PureOp.assign rfl) ?_
  refine SL.nil_then ?_
  refine WC.seq ?_
  refine WC.seq ?_
  refine WC.region ?_
  refine SL.pure rfl rfl rfl (PureOp.move rfl) ?_
  refine SL.pure rfl rfl rfl (PureOp.lss rfl rfl) ?_
  refine SL.nil_then ?_
  refine WC.cond rfl (fun h1 => ?_) (fun h1 => ?_)
  · try simp only [Bool.and_eq_true, Bool.or_eq_true, Bool.not_eq_true', Bool.not_eq_false', Bool.and_eq_false_iff, Bool.or_eq_false_iff, decide_eq_true_eq, decide_eq_false_iff_not, Int.not_lt, Int.not_le, ne_eq, Decidable.not_not] at h1
    refine WC.seq ?_
    refine WC.region ?_
    refine SL.pure rfl rfl rfl (PureOp.move rfl) ?_
    refine SL.pure rfl rfl rfl (PureOp.move rfl) ?_
    refine SL.pure rfl rfl rfl (PureOp.addu rfl rfl (fun _ => by (first | (exact u64_id (by omega)) | (exact ⟨by decide, u64_id (by omega)⟩) | (exact ⟨by decide, u64_id (by have q := Nat.div_le_self n 10; show 0 ≤ ((n / 10 : Nat) : Int) ∧ ((n / 10 : Nat) : Int) ≤ _; omega)⟩) | (exact u64_id (by show 0 ≤ ((n % 10 : Nat) : Int) + 1 ∧ ((n % 10 : Nat) : Int) + 1 ≤ _; omega)) | (refine ⟨by omega, by omega, ?_⟩; show _ ≤ (10 : Int); omega) | (refine ⟨by show 0 ≤ ((n % 10 : Nat) : Int); omega, by show ((n % 10 : Nat) : Int) ≤ ((n % 10 : Nat) : Int) + 1; omega, ?_⟩; show ((n % 10 : Nat) : Int) + 1 ≤ (10 : Int); omega) | decide | (rw [ByteArray.size_append]; omega) | omega))) ?_
    refine SL.pure rfl rfl rfl (PureOp.sliceslh Try.underlying9 rfl rfl rfl (fun _ => by (first | (exact u64_id (by omega)) | (exact ⟨by decide, u64_id (by omega)⟩) | (exact ⟨by decide, u64_id (by have q := Nat.div_le_self n 10; show 0 ≤ ((n / 10 : Nat) : Int) ∧ ((n / 10 : Nat) : Int) ≤ _; omega)⟩) | (exact u64_id (by show 0 ≤ ((n % 10 : Nat) : Int) + 1 ∧ ((n % 10 : Nat) : Int) + 1 ≤ _; omega)) | (refine ⟨by omega, by omega, ?_⟩; show _ ≤ (10 : Int); omega) | (refine ⟨by show 0 ≤ ((n % 10 : Nat) : Int); omega, by show ((n % 10 : Nat) : Int) ≤ ((n % 10 : Nat) : Int) + 1; omega, ?_⟩; show ((n % 10 : Nat) : Int) + 1 ≤ (10 : Int); omega) | decide | (rw [ByteArray.size_append]; omega) | omega))) ?_
    refine SL.pure rfl rfl rfl (PureOp.assign rfl) ?_
    refine SL.nil_then ?_
    refine WC.ret ?_
    refine QX.ret_then ?_
    refine QX.ret1 rfl rfl ?_
    intro w hw
    rfl
  · try simp only [Bool.and_eq_true, Bool.or_eq_true, Bool.not_eq_true', Bool.not_eq_false', Bool.and_eq_false_iff, Bool.or_eq_false_iff, decide_eq_true_eq, decide_eq_false_iff_not, Int.not_lt, Int.not_le, ne_eq, Decidable.not_not] at h1
    exact absurd h1 (by omega)
set_option maxHeartbeats 4000000 in
set_option maxRecDepth 100000 in
theorem digits1 (k : Nat) (hk : k + 1 ≤ 19) (ih : ∀ n, n < 10 ^ (k + 1) → k ≤ 19 → ∀ w0, FnC Try.prog 56 [.int .u64 ((n : Nat) : Int)] w0 fun v w' => v = .string (digF k n)) (n : Nat) (hn : n < 10 ^ (k + 1 + 1)) (hn64 : n < 18446744073709551616) (w0 : World) : FnC Try.prog 56 [.int .u64 ((n : Nat) : Int)] w0 fun v w' => v = .string (digF (k + 1) n) := by
  refine fnc (N := 19) Try.func56 rfl rfl rfl ?_
  refine WC.seq ?_
  refine WC.region ?_
  refine SL.pure rfl rfl rfl (PureOp.assign rfl) ?_
  refine SL.nil_then ?_
  refine WC.seq ?_
  refine WC.seq ?_
  refine WC.region ?_
  refine SL.pure rfl rfl rfl (PureOp.move rfl) ?_
  refine SL.pure rfl rfl rfl (PureOp.lss rfl rfl) ?_
  refine SL.nil_then ?_
  refine WC.cond rfl (fun h1 => ?_) (fun h1 => ?_)
  · try simp only [Bool.and_eq_true, Bool.or_eq_true, Bool.not_eq_true', Bool.not_eq_false', Bool.and_eq_false_iff, Bool.or_eq_false_iff, decide_eq_true_eq, decide_eq_false_iff_not, Int.not_lt, Int.not_le, ne_eq, Decidable.not_not] at h1
    refine WC.seq ?_
    refine WC.region ?_
    refine SL.pure rfl rfl rfl (PureOp.move rfl) ?_
    refine SL.pure rfl rfl rfl (PureOp.move rfl) ?_
    refine SL.pure rfl rfl rfl (PureOp.addu rfl rfl (fun _ => by (first | (exact u64_id (by omega)) | (exact ⟨by decide, u64_id (by omega)⟩) | (exact ⟨by decide, u64_id (by have q := Nat.div_le_self n 10; show 0 ≤ ((n / 10 : Nat) : Int) ∧ ((n / 10 : Nat) : Int) ≤ _; omega)⟩) | (exact u64_id (by show 0 ≤ ((n % 10 : Nat) : Int) + 1 ∧ ((n % 10 : Nat) : Int) + 1 ≤ _; omega)) | (refine ⟨by omega, by omega, ?_⟩; show _ ≤ (10 : Int); omega) | (refine ⟨by show 0 ≤ ((n % 10 : Nat) : Int); omega, by show ((n % 10 : Nat) : Int) ≤ ((n % 10 : Nat) : Int) + 1; omega, ?_⟩; show ((n % 10 : Nat) : Int) + 1 ≤ (10 : Int); omega) | decide | (have q1 := digF_size k (n / 10); have q2 := size_extract_le dS (n % 10) (n % 10 + 1); show (digF k (n / 10)).size + (dS.extract (n % 10) (n % 10 + 1)).size ≤ _; omega) | omega))) ?_
    refine SL.pure rfl rfl rfl (PureOp.sliceslh Try.underlying9 rfl rfl rfl (fun _ => by (first | (exact u64_id (by omega)) | (exact ⟨by decide, u64_id (by omega)⟩) | (exact ⟨by decide, u64_id (by have q := Nat.div_le_self n 10; show 0 ≤ ((n / 10 : Nat) : Int) ∧ ((n / 10 : Nat) : Int) ≤ _; omega)⟩) | (exact u64_id (by show 0 ≤ ((n % 10 : Nat) : Int) + 1 ∧ ((n % 10 : Nat) : Int) + 1 ≤ _; omega)) | (refine ⟨by omega, by omega, ?_⟩; show _ ≤ (10 : Int); omega) | (refine ⟨by show 0 ≤ ((n % 10 : Nat) : Int); omega, by show ((n % 10 : Nat) : Int) ≤ ((n % 10 : Nat) : Int) + 1; omega, ?_⟩; show ((n % 10 : Nat) : Int) + 1 ≤ (10 : Int); omega) | decide | (have q1 := digF_size k (n / 10); have q2 := size_extract_le dS (n % 10) (n % 10 + 1); show (digF k (n / 10)).size + (dS.extract (n % 10) (n % 10 + 1)).size ≤ _; omega) | omega))) ?_
    refine SL.pure rfl rfl rfl (PureOp.assign rfl) ?_
    refine SL.nil_then ?_
    refine WC.ret ?_
    refine QX.ret_then ?_
    refine QX.ret1 rfl rfl ?_
    intro w hw
    refine congrArg Value.string ?_
    rw [digF, if_pos (by omega)]; rfl
  · try simp only [Bool.and_eq_true, Bool.or_eq_true, Bool.not_eq_true', Bool.not_eq_false', Bool.and_eq_false_iff, Bool.or_eq_false_iff, decide_eq_true_eq, decide_eq_false_iff_not, Int.not_lt, Int.not_le, ne_eq, Decidable.not_not] at h1
    refine WC.skip ?_
    refine QX.then_ ?_
    refine WC.seq ?_
    refine WC.quiet rfl (by kernel_rfl) ?_
    refine SQ.pure rfl rfl rfl (PureOp.move rfl) ?_
    refine SQ.pure rfl rfl rfl (PureOp.quou rfl rfl (fun _ => by (first | (exact u64_id (by omega)) | (exact ⟨by decide, u64_id (by omega)⟩) | (exact ⟨by decide, u64_id (by have q := Nat.div_le_self n 10; show 0 ≤ ((n / 10 : Nat) : Int) ∧ ((n / 10 : Nat) : Int) ≤ _; omega)⟩) | (exact u64_id (by show 0 ≤ ((n % 10 : Nat) : Int) + 1 ∧ ((n % 10 : Nat) : Int) + 1 ≤ _; omega)) | (refine ⟨by omega, by omega, ?_⟩; show _ ≤ (10 : Int); omega) | (refine ⟨by show 0 ≤ ((n % 10 : Nat) : Int); omega, by show ((n % 10 : Nat) : Int) ≤ ((n % 10 : Nat) : Int) + 1; omega, ?_⟩; show ((n % 10 : Nat) : Int) + 1 ≤ (10 : Int); omega) | decide | (have q1 := digF_size k (n / 10); have q2 := size_extract_le dS (n % 10) (n % 10 + 1); show (digF k (n / 10)).size + (dS.extract (n % 10) (n % 10 + 1)).size ≤ _; omega) | omega))) ?_
    refine SQ.calle rfl rfl rfl rfl rfl rfl callable56 (fun w hw => ih (n / 10) (by have := Nat.pow_succ 10 (k + 1); omega) (by omega) w) ?_
    refine SQ.pure rfl rfl rfl (PureOp.move rfl) ?_
    refine SQ.pure rfl rfl rfl (PureOp.rem rfl rfl (fun _ => by (first | (exact u64_id (by omega)) | (exact ⟨by decide, u64_id (by omega)⟩) | (exact ⟨by decide, u64_id (by have q := Nat.div_le_self n 10; show 0 ≤ ((n / 10 : Nat) : Int) ∧ ((n / 10 : Nat) : Int) ≤ _; omega)⟩) | (exact u64_id (by show 0 ≤ ((n % 10 : Nat) : Int) + 1 ∧ ((n % 10 : Nat) : Int) + 1 ≤ _; omega)) | (refine ⟨by omega, by omega, ?_⟩; show _ ≤ (10 : Int); omega) | (refine ⟨by show 0 ≤ ((n % 10 : Nat) : Int); omega, by show ((n % 10 : Nat) : Int) ≤ ((n % 10 : Nat) : Int) + 1; omega, ?_⟩; show ((n % 10 : Nat) : Int) + 1 ≤ (10 : Int); omega) | decide | (have q1 := digF_size k (n / 10); have q2 := size_extract_le dS (n % 10) (n % 10 + 1); show (digF k (n / 10)).size + (dS.extract (n % 10) (n % 10 + 1)).size ≤ _; omega) | omega))) ?_
    refine SQ.pure rfl rfl rfl (PureOp.move rfl) ?_
    refine SQ.pure rfl rfl rfl (PureOp.rem rfl rfl (fun _ => by (first | (exact u64_id (by omega)) | (exact ⟨by decide, u64_id (by omega)⟩) | (exact ⟨by decide, u64_id (by have q := Nat.div_le_self n 10; show 0 ≤ ((n / 10 : Nat) : Int) ∧ ((n / 10 : Nat) : Int) ≤ _; omega)⟩) | (exact u64_id (by show 0 ≤ ((n % 10 : Nat) : Int) + 1 ∧ ((n % 10 : Nat) : Int) + 1 ≤ _; omega)) | (refine ⟨by omega, by omega, ?_⟩; show _ ≤ (10 : Int); omega) | (refine ⟨by show 0 ≤ ((n % 10 : Nat) : Int); omega, by show ((n % 10 : Nat) : Int) ≤ ((n % 10 : Nat) : Int) + 1; omega, ?_⟩; show ((n % 10 : Nat) : Int) + 1 ≤ (10 : Int); omega) | decide | (have q1 := digF_size k (n / 10); have q2 := size_extract_le dS (n % 10) (n % 10 + 1); show (digF k (n / 10)).size + (dS.extract (n % 10) (n % 10 + 1)).size ≤ _; omega) | omega))) ?_
    refine SQ.pure rfl rfl rfl (PureOp.addu rfl rfl (fun _ => by (first | (exact u64_id (by omega)) | (exact ⟨by decide, u64_id (by omega)⟩) | (exact ⟨by decide, u64_id (by have q := Nat.div_le_self n 10; show 0 ≤ ((n / 10 : Nat) : Int) ∧ ((n / 10 : Nat) : Int) ≤ _; omega)⟩) | (exact u64_id (by show 0 ≤ ((n % 10 : Nat) : Int) + 1 ∧ ((n % 10 : Nat) : Int) + 1 ≤ _; omega)) | (refine ⟨by omega, by omega, ?_⟩; show _ ≤ (10 : Int); omega) | (refine ⟨by show 0 ≤ ((n % 10 : Nat) : Int); omega, by show ((n % 10 : Nat) : Int) ≤ ((n % 10 : Nat) : Int) + 1; omega, ?_⟩; show ((n % 10 : Nat) : Int) + 1 ≤ (10 : Int); omega) | decide | (have q1 := digF_size k (n / 10); have q2 := size_extract_le dS (n % 10) (n % 10 + 1); show (digF k (n / 10)).size + (dS.extract (n % 10) (n % 10 + 1)).size ≤ _; omega) | omega))) ?_
    refine SQ.pure rfl rfl rfl (PureOp.sliceslh Try.underlying9 rfl rfl rfl (fun _ => by (first | (exact u64_id (by omega)) | (exact ⟨by decide, u64_id (by omega)⟩) | (exact ⟨by decide, u64_id (by have q := Nat.div_le_self n 10; show 0 ≤ ((n / 10 : Nat) : Int) ∧ ((n / 10 : Nat) : Int) ≤ _; omega)⟩) | (exact u64_id (by show 0 ≤ ((n % 10 : Nat) : Int) + 1 ∧ ((n % 10 : Nat) : Int) + 1 ≤ _; omega)) | (refine ⟨by omega, by omega, ?_⟩; show _ ≤ (10 : Int); omega) | (refine ⟨by show 0 ≤ ((n % 10 : Nat) : Int); omega, by show ((n % 10 : Nat) : Int) ≤ ((n % 10 : Nat) : Int) + 1; omega, ?_⟩; show ((n % 10 : Nat) : Int) + 1 ≤ (10 : Int); omega) | decide | (have q1 := digF_size k (n / 10); have q2 := size_extract_le dS (n % 10) (n % 10 + 1); show (digF k (n / 10)).size + (dS.extract (n % 10) (n % 10 + 1)).size ≤ _; omega) | omega))) ?_
    refine SQ.pure rfl rfl rfl (PureOp.adds rfl rfl (fun _ => by (first | (exact u64_id (by omega)) | (exact ⟨by decide, u64_id (by omega)⟩) | (exact ⟨by decide, u64_id (by have q := Nat.div_le_self n 10; show 0 ≤ ((n / 10 : Nat) : Int) ∧ ((n / 10 : Nat) : Int) ≤ _; omega)⟩) | (exact u64_id (by show 0 ≤ ((n % 10 : Nat) : Int) + 1 ∧ ((n % 10 : Nat) : Int) + 1 ≤ _; omega)) | (refine ⟨by omega, by omega, ?_⟩; show _ ≤ (10 : Int); omega) | (refine ⟨by show 0 ≤ ((n % 10 : Nat) : Int); omega, by show ((n % 10 : Nat) : Int) ≤ ((n % 10 : Nat) : Int) + 1; omega, ?_⟩; show ((n % 10 : Nat) : Int) + 1 ≤ (10 : Int); omega) | decide | (have q1 := digF_size k (n / 10); have q2 := size_extract_le dS (n % 10) (n % 10 + 1); show (digF k (n / 10)).size + (dS.extract (n % 10) (n % 10 + 1)).size ≤ _; omega) | omega))) ?_
    refine SQ.pure rfl rfl rfl (PureOp.assign rfl) ?_
    refine SQ.nil_then ?_
    refine WC.ret ?_
    refine QX.ret1 rfl rfl ?_
    intro w hw
    refine congrArg Value.string ?_
    rw [digF, if_neg (by omega)]; rfl
theorem digits_ok : ∀ (k n : Nat), n < 10 ^ (k + 1) → k ≤ 19 → n < 18446744073709551616 → ∀ w0, FnC Try.prog 56 [.int .u64 ((n : Nat) : Int)] w0 fun v w' => v = .string (digF k n)
  | 0, n, h, _, _, w0 => digits0 n (by simpa using h) w0
  | k + 1, n, h, hk, h64, w0 => by
    refine digits1 k hk (fun m hm _ w => digits_ok k m hm (by omega) ?_ w) n h h64 w0
    have : 10 ^ (k + 1) ≤ 10 ^ 19 := Nat.pow_le_pow_right (by decide) hk
    have e : (10 : Nat) ^ 19 = 10000000000000000000 := by decide
    omega
theorem digits64 (z : Int) (h : 0 ≤ z ∧ z ≤ 9223372036854775808) (w0 : World) : FnC Try.prog 56 [.int .u64 z] w0 fun v w' => v = .string (digF 19 z.toNat) := by
  obtain ⟨n, rfl⟩ : ∃ n : Nat, z = n := ⟨z.toNat, by omega⟩
  have e : (10 : Nat) ^ 20 = 100000000000000000000 := by decide
  exact digits_ok 19 n (by show n < 10 ^ 20; omega) (by decide) (by omega) w0
set_option maxHeartbeats 4000000 in
set_option maxRecDepth 100000 in
theorem decimal_ok (n : Int) (hn : -9223372036854775808 ≤ n ∧ n ≤ 9223372036854775807) (w0 : World) : FnC Try.prog 37 [.int .i64 n] w0 fun v w' => v = .string (decS n) := by
  refine fnc (N := 15) Try.func37 rfl rfl rfl ?_
  refine WC.seq ?_
  refine WC.region ?_
  refine SL.pure rfl rfl rfl (PureOp.assign rfl) ?_
  refine SL.nil_then ?_
  refine WC.seq ?_
  refine WC.seq ?_
  refine WC.region ?_
  refine SL.pure rfl rfl rfl (PureOp.move rfl) ?_
  refine SL.pure rfl rfl rfl (PureOp.lss rfl rfl) ?_
  refine SL.nil_then ?_
  refine WC.cond rfl (fun h1 => ?_) (fun h1 => ?_)
  · try simp only [Bool.and_eq_true, Bool.or_eq_true, Bool.not_eq_true', Bool.not_eq_false', Bool.and_eq_false_iff, Bool.or_eq_false_iff, decide_eq_true_eq, decide_eq_false_iff_not, Int.not_lt, Int.not_le, ne_eq, Decidable.not_not] at h1
    refine WC.seq ?_
    refine WC.region ?_
    refine SL.pure rfl rfl rfl (PureOp.move rfl) ?_
    refine SL.pure rfl rfl rfl (PureOp.add rfl rfl (fun _ => by (first | omega | (have e := u64_id (z := -(n + 1)) (by omega); rw [e]; exact u64_id (by omega)) | (show 1 + (digF 19 _).size ≤ _; have q := digF_size 19 (IntKind.u64.wrap (-(n + 1)) + 1).toNat; omega)))) ?_
    refine SL.pure rfl rfl rfl (PureOp.neg rfl (fun _ => by (first | omega | (have e := u64_id (z := -(n + 1)) (by omega); rw [e]; exact u64_id (by omega)) | (show 1 + (digF 19 _).size ≤ _; have q := digF_size 19 (IntKind.u64.wrap (-(n + 1)) + 1).toNat; omega)))) ?_
    refine SL.pure rfl rfl rfl (PureOp.conv rfl Try.underlying3 Try.underlying115) ?_
    refine SL.pure rfl rfl rfl (PureOp.addu rfl rfl (fun _ => by (first | omega | (have e := u64_id (z := -(n + 1)) (by omega); rw [e]; exact u64_id (by omega)) | (show 1 + (digF 19 _).size ≤ _; have q := digF_size 19 (IntKind.u64.wrap (-(n + 1)) + 1).toNat; omega)))) ?_
    refine SL.calle rfl rfl rfl rfl rfl rfl callable56 (fun w hw => digits64 _ (by first | (have e := u64_id (z := -(n + 1)) (by omega); rw [e]; omega) | (have e := u64_id (z := n) (by omega); rw [e]; omega)) w) ?_
    refine SL.norm [] rfl ?_
    refine SL.pure rfl rfl rfl (PureOp.adds rfl rfl (fun _ => by (first | omega | (have e := u64_id (z := -(n + 1)) (by omega); rw [e]; exact u64_id (by omega)) | (show 1 + (digF 19 _).size ≤ _; have q := digF_size 19 (IntKind.u64.wrap (-(n + 1)) + 1).toNat; omega)))) ?_
    refine SL.pure rfl rfl rfl (PureOp.assign rfl) ?_
    refine SL.nil_then ?_
    refine WC.ret ?_
    refine QX.ret_then ?_
    refine QX.ret1 rfl rfl ?_
    intro w hw
    refine congrArg Value.string ?_
    rw [decS, if_pos (by omega), u64_id (z := -(n + 1)) (by omega), show -(n + 1) + 1 = -n from by omega]
  · try simp only [Bool.and_eq_true, Bool.or_eq_true, Bool.not_eq_true', Bool.not_eq_false', Bool.and_eq_false_iff, Bool.or_eq_false_iff, decide_eq_true_eq, decide_eq_false_iff_not, Int.not_lt, Int.not_le, ne_eq, Decidable.not_not] at h1
    refine WC.skip ?_
    refine QX.then_ ?_
    refine WC.seq ?_
    refine WC.region ?_
    refine SL.pure rfl rfl rfl (PureOp.move rfl) ?_
    refine SL.pure rfl rfl rfl (PureOp.conv rfl Try.underlying3 Try.underlying115) ?_
    refine SL.calle rfl rfl rfl rfl rfl rfl callable56 (fun w hw => digits64 _ (by first | (have e := u64_id (z := -(n + 1)) (by omega); rw [e]; omega) | (have e := u64_id (z := n) (by omega); rw [e]; omega)) w) ?_
    refine SL.norm [] rfl ?_
    refine SL.pure rfl rfl rfl (PureOp.assign rfl) ?_
    refine SL.nil_then ?_
    refine WC.ret ?_
    refine QX.ret1 rfl rfl ?_
    intro w hw
    refine congrArg Value.string ?_
    rw [decS, if_neg (by omega), u64_id (z := n) (by omega)]

set_option maxHeartbeats 4000000 in
set_option maxRecDepth 100000 in
theorem letters_ok (s : ByteArray) (hsz : s.size ≤ 9223372036854775807) (n : Int) (w0 : World) : FnC Try.prog 73 [.string s, .int .i64 n] w0 fun v w' => v = .bool (letB s n) := by
  refine fnc (N := 21) Try.func73 rfl rfl rfl ?_
  refine WC.seq ?_
  refine WC.region ?_
  refine SL.pure rfl rfl rfl (PureOp.assign rfl) ?_
  refine SL.nil_then ?_
  refine WC.seq ?_
  refine WC.seq ?_
  refine WC.region ?_
  refine SL.pure rfl rfl rfl (PureOp.assign rfl) ?_
  refine SL.nil_then ?_
  refine WC.block ?_
  refine WC.loop (σ := Nat) (fun q_ => [(0, 0, .string s), (1, 0, .int .i64 n), (5, 0, .int .i64 ((q_ : Nat) : Int))]) (fun q_ => []) (fun q_ => q_ ≤ s.size ∧ ∀ j, j < q_ → upB (byteI s j) = true) (fun q_ => s.size - q_) 0 (0) (⟨Nat.zero_le _, fun j hj => absurd hj (by omega)⟩) ⟨rfl, rfl, rfl, rfl, rfl, rfl, trivial⟩ rfl ?_
  rintro k ⟨hk, hI⟩
  refine WC.seq ?_
  refine WC.seq ?_
  refine WC.region ?_
  refine SL.pure rfl rfl rfl (PureOp.move rfl) ?_
  refine SL.pure rfl rfl rfl (PureOp.move rfl) ?_
  refine SL.pure rfl rfl rfl (PureOp.lens rfl Try.underlying9) ?_
  refine SL.pure rfl rfl rfl (PureOp.lss rfl rfl) ?_
  refine SL.nil_then ?_
  refine WC.cond rfl (fun h1 => ?_) (fun h1 => ?_)
  · try simp only [Bool.and_eq_true, Bool.or_eq_true, Bool.not_eq_true', Bool.not_eq_false', Bool.and_eq_false_iff, Bool.or_eq_false_iff, decide_eq_true_eq, decide_eq_false_iff_not, Int.not_lt, Int.not_le, ne_eq, Decidable.not_not] at h1
    refine WC.skip ?_
    refine QX.then_ ?_
    refine WC.seq ?_
    refine WC.block ?_
    refine WC.seq ?_
    refine WC.region ?_
    refine SL.pure rfl rfl rfl (PureOp.move rfl) ?_
    refine SL.pure rfl rfl rfl (PureOp.move rfl) ?_
    refine SL.pure rfl rfl rfl (PureOp.indexs Try.underlying9 rfl rfl (fun _ => by omega)) ?_
    refine SL.calle rfl rfl rfl rfl rfl rfl callable75 (fun w hw => upper_ok _ w) ?_
    refine SL.norm [] rfl ?_
    refine SL.pure rfl rfl rfl (PureOp.not rfl) ?_
    refine SL.nil_then ?_
    refine WC.cond rfl (fun h2 => ?_) (fun h2 => ?_)
    · try simp only [Bool.and_eq_true, Bool.or_eq_true, Bool.not_eq_true', Bool.not_eq_false', Bool.and_eq_false_iff, Bool.or_eq_false_iff, decide_eq_true_eq, decide_eq_false_iff_not, Int.not_lt, Int.not_le, ne_eq, Decidable.not_not] at h2
      refine WC.seq ?_
      refine WC.region ?_
      refine SL.pure rfl rfl rfl (PureOp.assign rfl) ?_
      refine SL.nil_then ?_
      refine WC.ret ?_
      refine QX.ret_in ?_
      refine QX.ret_then ?_
      refine QX.ret_then ?_
      refine QX.ret_in ?_
      refine QX.ret_then ?_
      refine QX.ret1 rfl rfl ?_
      intro w hw
      rw [letB, allS_false (i := k) (by omega) h2]; rfl
    · try simp only [Bool.and_eq_true, Bool.or_eq_true, Bool.not_eq_true', Bool.not_eq_false', Bool.and_eq_false_iff, Bool.or_eq_false_iff, decide_eq_true_eq, decide_eq_false_iff_not, Int.not_lt, Int.not_le, ne_eq, Decidable.not_not] at h2
      refine WC.skip ?_
      refine QX.normal_in ?_
      refine QX.then_ ?_
      refine WC.region ?_
      refine SL.pure rfl rfl rfl (PureOp.move rfl) ?_
      refine SL.pure rfl rfl rfl (PureOp.addN (k := 1) rfl rfl (fun _ => by omega)) ?_
      refine SL.pure rfl rfl rfl (PureOp.assign rfl) ?_
      refine SL.nil ?_
      refine QX.round 0 (k + 1) ⟨⟨by omega, fun j hj => by by_cases q : j = k; (subst q; simpa using h2); exact hI j (by omega)⟩, by first | omega | (dsimp only; omega)⟩ ⟨rfl, rfl, rfl, rfl, rfl, rfl, trivial⟩ rfl
  · try simp only [Bool.and_eq_true, Bool.or_eq_true, Bool.not_eq_true', Bool.not_eq_false', Bool.and_eq_false_iff, Bool.or_eq_false_iff, decide_eq_true_eq, decide_eq_false_iff_not, Int.not_lt, Int.not_le, ne_eq, Decidable.not_not] at h1
    refine WC.exit ?_
    refine QX.exit_then ?_
    refine QX.exit_then ?_
    refine QX.exit_hit ?_
    refine QX.then_ ?_
    refine WC.seq ?_
    refine WC.region ?_
    refine SL.pure rfl rfl rfl (PureOp.move rfl) ?_
    refine SL.pure rfl rfl rfl (PureOp.lens rfl Try.underlying9) ?_
    refine SL.pure rfl rfl rfl (PureOp.move rfl) ?_
    refine SL.pure rfl rfl rfl (PureOp.eql rfl rfl) ?_
    refine SL.pure rfl rfl rfl (PureOp.assign rfl) ?_
    refine SL.nil_then ?_
    refine WC.ret ?_
    refine QX.ret1 rfl rfl ?_
    intro w hw
    rw [letB, allS_true.2 (fun i hi => hI i (by omega)), Bool.true_and]

set_option maxHeartbeats 4000000 in
set_option maxRecDepth 100000 in
theorem airport_ok (s : ByteArray) (hsz : s.size ≤ 9223372036854775807) (w0 : World) : FnC Try.prog 53 [.string s] w0 fun v w' => v = .bool (letB s 3) := by
  refine fnc (N := 5) Try.func53 rfl rfl rfl ?_
  refine WC.seq ?_
  refine WC.region ?_
  refine SL.pure rfl rfl rfl (PureOp.assign rfl) ?_
  refine SL.nil_then ?_
  refine WC.seq ?_
  refine WC.region ?_
  refine SL.pure rfl rfl rfl (PureOp.move rfl) ?_
  refine SL.calle rfl rfl rfl rfl rfl rfl callable73 (fun w hw => letters_ok _ (by omega) _ w) ?_
  refine SL.norm [] rfl ?_
  refine SL.pure rfl rfl rfl (PureOp.assign rfl) ?_
  refine SL.nil_then ?_
  refine WC.ret ?_
  refine QX.ret1 rfl rfl ?_
  intro w hw
  rfl

set_option maxHeartbeats 4000000 in
set_option maxRecDepth 100000 in
theorem country_ok (s : ByteArray) (hsz : s.size ≤ 9223372036854775807) (w0 : World) : FnC Try.prog 54 [.string s] w0 fun v w' => v = .bool (letB s 2) := by
  refine fnc (N := 5) Try.func54 rfl rfl rfl ?_
  refine WC.seq ?_
  refine WC.region ?_
  refine SL.pure rfl rfl rfl (PureOp.assign rfl) ?_
  refine SL.nil_then ?_
  refine WC.seq ?_
  refine WC.region ?_
  refine SL.pure rfl rfl rfl (PureOp.move rfl) ?_
  refine SL.calle rfl rfl rfl rfl rfl rfl callable73 (fun w hw => letters_ok _ (by omega) _ w) ?_
  refine SL.norm [] rfl ?_
  refine SL.pure rfl rfl rfl (PureOp.assign rfl) ?_
  refine SL.nil_then ?_
  refine WC.ret ?_
  refine QX.ret1 rfl rfl ?_
  intro w hw
  rfl

set_option maxHeartbeats 4000000 in
set_option maxRecDepth 100000 in
theorem class_ok (s : ByteArray) (hsz : s.size ≤ 9223372036854775807) (w0 : World) : FnC Try.prog 62 [.string s] w0 fun v w' => v = .bool (letB s 1) := by
  refine fnc (N := 5) Try.func62 rfl rfl rfl ?_
  refine WC.seq ?_
  refine WC.region ?_
  refine SL.pure rfl rfl rfl (PureOp.assign rfl) ?_
  refine SL.nil_then ?_
  refine WC.seq ?_
  refine WC.region ?_
  refine SL.pure rfl rfl rfl (PureOp.move rfl) ?_
  refine SL.calle rfl rfl rfl rfl rfl rfl callable73 (fun w hw => letters_ok _ (by omega) _ w) ?_
  refine SL.norm [] rfl ?_
  refine SL.pure rfl rfl rfl (PureOp.assign rfl) ?_
  refine SL.nil_then ?_
  refine WC.ret ?_
  refine QX.ret1 rfl rfl ?_
  intro w hw
  rfl

set_option maxHeartbeats 4000000 in
set_option maxRecDepth 100000 in
theorem code_ok (s : ByteArray) (hsz : s.size ≤ 9223372036854775807) (a b : Int) (w0 : World) : FnC Try.prog 60 [.string s, .int .i64 a, .int .i64 b] w0 fun v w' => v = .bool (codeB s a b) := by
  refine fnc (N := 36) Try.func60 rfl rfl rfl ?_
  refine WC.seq ?_
  refine WC.region ?_
  refine SL.pure rfl rfl rfl (PureOp.assign rfl) ?_
  refine SL.nil_then ?_
  refine WC.seq ?_
  refine WC.seq ?_
  refine WC.region ?_
  refine SL.pure rfl rfl rfl (PureOp.assign rfl) ?_
  refine SL.nil_then ?_
  refine WC.block ?_
  refine WC.loop (σ := Nat) (fun q_ => [(0, 0, .string s), (1, 0, .int .i64 a), (2, 0, .int .i64 b), (7, 0, .int .i64 ((q_ : Nat) : Int))]) (fun q_ => []) (fun q_ => q_ ≤ s.size ∧ ∀ j, j < q_ → (upB (byteI s j) || dgB (byteI s j)) = true) (fun q_ => s.size - q_) 0 (0) (⟨Nat.zero_le _, fun j hj => absurd hj (by omega)⟩) ⟨rfl, rfl, rfl, rfl, rfl, rfl, rfl, rfl, trivial⟩ rfl ?_
  rintro k ⟨hk, hI⟩
  refine WC.seq ?_
  refine WC.seq ?_
  refine WC.region ?_
  refine SL.pure rfl rfl rfl (PureOp.move rfl) ?_
  refine SL.pure rfl rfl rfl (PureOp.move rfl) ?_
  refine SL.pure rfl rfl rfl (PureOp.lens rfl Try.underlying9) ?_
  refine SL.pure rfl rfl rfl (PureOp.lss rfl rfl) ?_
  refine SL.nil_then ?_
  refine WC.cond rfl (fun h1 => ?_) (fun h1 => ?_)
  · try simp only [Bool.and_eq_true, Bool.or_eq_true, Bool.not_eq_true', Bool.not_eq_false', Bool.and_eq_false_iff, Bool.or_eq_false_iff, decide_eq_true_eq, decide_eq_false_iff_not, Int.not_lt, Int.not_le, ne_eq, Decidable.not_not] at h1
    refine WC.skip ?_
    refine QX.then_ ?_
    refine WC.seq ?_
    refine WC.block ?_
    refine WC.seq ?_
    refine WC.region ?_
    refine SL.pure rfl rfl rfl (PureOp.move rfl) ?_
    refine SL.pure rfl rfl rfl (PureOp.move rfl) ?_
    refine SL.pure rfl rfl rfl (PureOp.indexs Try.underlying9 rfl rfl (fun _ => by omega)) ?_
    refine SL.calle rfl rfl rfl rfl rfl rfl callable75 (fun w hw => upper_ok _ w) ?_
    refine SL.norm [] rfl ?_
    refine SL.pure rfl rfl rfl (PureOp.not rfl) ?_
    refine SL.pure rfl rfl rfl (PureOp.move rfl) ?_
    refine SL.newg 19 true rfl ?_
    refine SL.gpure (c := 1) rfl rfl rfl rfl rfl rfl rfl (PureOp.move rfl) ?_
    refine SL.gpure (c := 1) rfl rfl rfl rfl rfl rfl rfl (PureOp.move rfl) ?_
    refine SL.gpure (c := 1) rfl rfl rfl rfl rfl rfl rfl (PureOp.indexs Try.underlying9 rfl rfl (by intro hg; simp [gval] at hg; omega)) ?_
    refine SL.gcalle (c := 1) rfl rfl rfl rfl rfl rfl rfl rfl rfl rfl callable76 (by intro hg; simp [gval] at hg; exact (fun w hw => digit_ok _ w)) ?_
    refine SL.norm [] rfl ?_
    refine SL.gpure (c := 1) rfl rfl rfl rfl rfl rfl rfl (PureOp.not rfl) ?_
    refine SL.pure rfl rfl rfl (PureOp.and_ rfl rfl rfl rfl) ?_
    refine SL.nil_then ?_
    refine WC.cond rfl (fun h2 => ?_) (fun h2 => ?_)
    · try simp only [Bool.and_eq_true, Bool.or_eq_true, Bool.not_eq_true', Bool.not_eq_false', Bool.and_eq_false_iff, Bool.or_eq_false_iff, decide_eq_true_eq, decide_eq_false_iff_not, Int.not_lt, Int.not_le, ne_eq, Decidable.not_not] at h2
      refine WC.seq ?_
      refine WC.region ?_
      refine SL.pure rfl rfl rfl (PureOp.assign rfl) ?_
      refine SL.nil_then ?_
      refine WC.ret ?_
      refine QX.ret_in ?_
      refine QX.ret_then ?_
      refine QX.ret_then ?_
      refine QX.ret_in ?_
      refine QX.ret_then ?_
      refine QX.ret1 rfl rfl ?_
      intro w hw
      rw [codeB, allS_false (i := k) (by omega) (by simpa using h2)]; rfl
    · try simp only [Bool.and_eq_true, Bool.or_eq_true, Bool.not_eq_true', Bool.not_eq_false', Bool.and_eq_false_iff, Bool.or_eq_false_iff, decide_eq_true_eq, decide_eq_false_iff_not, Int.not_lt, Int.not_le, ne_eq, Decidable.not_not] at h2
      refine WC.skip ?_
      refine QX.normal_in ?_
      refine QX.then_ ?_
      refine WC.region ?_
      refine SL.pure rfl rfl rfl (PureOp.move rfl) ?_
      refine SL.pure rfl rfl rfl (PureOp.addN (k := 1) rfl rfl (fun _ => by omega)) ?_
      refine SL.pure rfl rfl rfl (PureOp.assign rfl) ?_
      refine SL.nil ?_
      refine QX.round 0 (k + 1) ⟨⟨by omega, fun j hj => by by_cases q : j = k; (subst q; simp only [Bool.or_eq_true]; simpa using h2); exact hI j (by omega)⟩, by first | omega | (dsimp only; omega)⟩ ⟨rfl, rfl, rfl, rfl, rfl, rfl, rfl, rfl, trivial⟩ rfl
  · try simp only [Bool.and_eq_true, Bool.or_eq_true, Bool.not_eq_true', Bool.not_eq_false', Bool.and_eq_false_iff, Bool.or_eq_false_iff, decide_eq_true_eq, decide_eq_false_iff_not, Int.not_lt, Int.not_le, ne_eq, Decidable.not_not] at h1
    refine WC.exit ?_
    refine QX.exit_then ?_
    refine QX.exit_then ?_
    refine QX.exit_hit ?_
    refine QX.then_ ?_
    refine WC.seq ?_
    refine WC.region ?_
    refine SL.pure rfl rfl rfl (PureOp.move rfl) ?_
    refine SL.pure rfl rfl rfl (PureOp.lens rfl Try.underlying9) ?_
    refine SL.pure rfl rfl rfl (PureOp.move rfl) ?_
    refine SL.pure rfl rfl rfl (PureOp.geq rfl rfl) ?_
    refine SL.pure rfl rfl rfl (PureOp.move rfl) ?_
    refine SL.newg 30 true rfl ?_
    refine SL.gpure (c := 1) rfl rfl rfl rfl rfl rfl rfl (PureOp.move rfl) ?_
    refine SL.gpure (c := 1) rfl rfl rfl rfl rfl rfl rfl (PureOp.lens rfl Try.underlying9) ?_
    refine SL.gpure (c := 1) rfl rfl rfl rfl rfl rfl rfl (PureOp.move rfl) ?_
    refine SL.gpure (c := 1) rfl rfl rfl rfl rfl rfl rfl (PureOp.leq rfl rfl) ?_
    refine SL.pure rfl rfl rfl (PureOp.and_ rfl rfl rfl rfl) ?_
    refine SL.pure rfl rfl rfl (PureOp.assign rfl) ?_
    refine SL.nil_then ?_
    refine WC.ret ?_
    refine QX.ret1 rfl rfl ?_
    intro w hw
    rw [codeB, allS_true.2 (fun i hi => hI i (by omega)), Bool.true_and]

set_option maxHeartbeats 4000000 in
set_option maxRecDepth 100000 in
theorem carrier_ok (s : ByteArray) (hsz : s.size ≤ 9223372036854775807) (w0 : World) : FnC Try.prog 59 [.string s] w0 fun v w' => v = .bool (carB s) := by
  refine fnc (N := 15) Try.func59 rfl rfl rfl ?_
  refine WC.seq ?_
  refine WC.region ?_
  refine SL.pure rfl rfl rfl (PureOp.assign rfl) ?_
  refine SL.nil_then ?_
  refine WC.seq ?_
  refine WC.region ?_
  refine SL.pure rfl rfl rfl (PureOp.move rfl) ?_
  refine SL.calle rfl rfl rfl rfl rfl rfl callable60 (fun w hw => code_ok s hsz 2 2 w) ?_
  refine SL.norm [] rfl ?_
  refine SL.pure rfl rfl rfl (PureOp.move rfl) ?_
  refine SL.newg 5 true rfl ?_
  refine SL.gpure (c := 1) rfl rfl rfl rfl rfl rfl rfl (PureOp.move rfl) ?_
  refine SL.gpure (c := 1) rfl rfl rfl rfl rfl rfl rfl (PureOp.indexs Try.underlying9 rfl rfl (by intro hg; simp [gval] at hg; (have q := codeB_size (s := s) (a := 2) (b := 2) (by first | exact hg | exact hg.1); omega))) ?_
  refine SL.gcalle (c := 1) rfl rfl rfl rfl rfl rfl rfl rfl rfl rfl callable75 (by intro hg; simp [gval] at hg; exact (fun w hw => upper_ok (byteI s 0) w)) ?_
  refine SL.norm [] rfl ?_
  refine SL.gpure (c := 1) rfl rfl rfl rfl rfl rfl rfl (PureOp.move rfl) ?_
  refine SL.newg 9 false rfl ?_
  refine SL.gpure (c := 2) rfl rfl rfl rfl rfl rfl rfl (PureOp.move rfl) ?_
  refine SL.gpure (c := 2) rfl rfl rfl rfl rfl rfl rfl (PureOp.indexs Try.underlying9 rfl rfl (by intro hg; simp [gval] at hg; (have q := codeB_size (s := s) (a := 2) (b := 2) (by first | exact hg | exact hg.1); omega))) ?_
  refine SL.gcalle (c := 2) rfl rfl rfl rfl rfl rfl rfl rfl rfl rfl callable75 (by intro hg; simp [gval] at hg; exact (fun w hw => upper_ok (byteI s 1) w)) ?_
  refine SL.norm [] rfl ?_
  refine SL.gpure (c := 1) rfl rfl rfl rfl rfl rfl rfl (PureOp.or_ rfl rfl rfl rfl) ?_
  refine SL.pure rfl rfl rfl (PureOp.and_ rfl rfl rfl rfl) ?_
  refine SL.pure rfl rfl rfl (PureOp.assign rfl) ?_
  refine SL.nil_then ?_
  refine WC.ret ?_
  refine QX.ret1 rfl rfl ?_
  intro w hw
  rfl

set_option maxHeartbeats 4000000 in
set_option maxRecDepth 100000 in
theorem periodk_ok (k : Int) (w0 : World) : FnC Try.prog 84 [.int .i64 k] w0 fun v w' => v = .bool (kperB k) := by
  refine fnc (N := 9) Try.func84 rfl rfl rfl ?_
  refine WC.seq ?_
  refine WC.region ?_
  refine SL.pure rfl rfl rfl (PureOp.assign rfl) ?_
  refine SL.nil_then ?_
  refine WC.seq ?_
  refine WC.region ?_
  refine SL.pure rfl rfl rfl (PureOp.move rfl) ?_
  refine SL.pure rfl rfl rfl (PureOp.eql rfl rfl) ?_
  refine SL.pure rfl rfl rfl (PureOp.move rfl) ?_
  refine SL.newg 5 false rfl ?_
  refine SL.gpure (c := 1) rfl rfl rfl rfl rfl rfl rfl (PureOp.move rfl) ?_
  refine SL.gpure (c := 1) rfl rfl rfl rfl rfl rfl rfl (PureOp.eql rfl rfl) ?_
  refine SL.pure rfl rfl rfl (PureOp.or_ rfl rfl rfl rfl) ?_
  refine SL.pure rfl rfl rfl (PureOp.assign rfl) ?_
  refine SL.nil_then ?_
  refine WC.ret ?_
  refine QX.ret1 rfl rfl ?_
  intro w hw
  rfl

set_option maxHeartbeats 4000000 in
set_option maxRecDepth 100000 in
theorem codesk_ok (k : Int) (w0 : World) : FnC Try.prog 86 [.int .i64 k] w0 fun v w' => v = .bool (kcodB k) := by
  refine fnc (N := 13) Try.func86 rfl rfl rfl ?_
  refine WC.seq ?_
  refine WC.region ?_
  refine SL.pure rfl rfl rfl (PureOp.assign rfl) ?_
  refine SL.nil_then ?_
  refine WC.seq ?_
  refine WC.region ?_
  refine SL.pure rfl rfl rfl (PureOp.move rfl) ?_
  refine SL.pure rfl rfl rfl (PureOp.eql rfl rfl) ?_
  refine SL.pure rfl rfl rfl (PureOp.move rfl) ?_
  refine SL.newg 5 false rfl ?_
  refine SL.gpure (c := 1) rfl rfl rfl rfl rfl rfl rfl (PureOp.move rfl) ?_
  refine SL.gpure (c := 1) rfl rfl rfl rfl rfl rfl rfl (PureOp.eql rfl rfl) ?_
  refine SL.pure rfl rfl rfl (PureOp.or_ rfl rfl rfl rfl) ?_
  refine SL.pure rfl rfl rfl (PureOp.move rfl) ?_
  refine SL.newg 9 false rfl ?_
  refine SL.gpure (c := 2) rfl rfl rfl rfl rfl rfl rfl (PureOp.move rfl) ?_
  refine SL.gpure (c := 2) rfl rfl rfl rfl rfl rfl rfl (PureOp.eql rfl rfl) ?_
  refine SL.pure rfl rfl rfl (PureOp.or_ rfl rfl rfl rfl) ?_
  refine SL.pure rfl rfl rfl (PureOp.assign rfl) ?_
  refine SL.nil_then ?_
  refine WC.ret ?_
  refine QX.ret1 rfl rfl ?_
  intro w hw
  rfl

set_option maxHeartbeats 4000000 in
set_option maxRecDepth 100000 in
theorem listk_ok (k : Int) (w0 : World) : FnC Try.prog 89 [.int .i64 k] w0 fun v w' => v = .bool (klstB k) := by
  refine fnc (N := 13) Try.func89 rfl rfl rfl ?_
  refine WC.seq ?_
  refine WC.region ?_
  refine SL.pure rfl rfl rfl (PureOp.assign rfl) ?_
  refine SL.nil_then ?_
  refine WC.seq ?_
  refine WC.region ?_
  refine SL.pure rfl rfl rfl (PureOp.move rfl) ?_
  refine SL.pure rfl rfl rfl (PureOp.eql rfl rfl) ?_
  refine SL.pure rfl rfl rfl (PureOp.move rfl) ?_
  refine SL.newg 5 false rfl ?_
  refine SL.gpure (c := 1) rfl rfl rfl rfl rfl rfl rfl (PureOp.move rfl) ?_
  refine SL.gpure (c := 1) rfl rfl rfl rfl rfl rfl rfl (PureOp.eql rfl rfl) ?_
  refine SL.pure rfl rfl rfl (PureOp.or_ rfl rfl rfl rfl) ?_
  refine SL.pure rfl rfl rfl (PureOp.move rfl) ?_
  refine SL.newg 9 false rfl ?_
  refine SL.gpure (c := 2) rfl rfl rfl rfl rfl rfl rfl (PureOp.move rfl) ?_
  refine SL.gpure (c := 2) rfl rfl rfl rfl rfl rfl rfl (PureOp.eql rfl rfl) ?_
  refine SL.pure rfl rfl rfl (PureOp.or_ rfl rfl rfl rfl) ?_
  refine SL.pure rfl rfl rfl (PureOp.assign rfl) ?_
  refine SL.nil_then ?_
  refine WC.ret ?_
  refine QX.ret1 rfl rfl ?_
  intro w hw
  rfl

set_option maxHeartbeats 4000000 in
set_option maxRecDepth 100000 in
theorem numbersk_ok (k : Int) (w0 : World) : FnC Try.prog 90 [.int .i64 k] w0 fun v w' => v = .int .i64 (knumI k) := by
  refine fnc (N := 19) Try.func90 rfl rfl rfl ?_
  refine WC.seq ?_
  refine WC.region ?_
  refine SL.pure rfl rfl rfl (PureOp.assign rfl) ?_
  refine SL.nil_then ?_
  refine WC.seq ?_
  refine WC.seq ?_
  refine WC.region ?_
  refine SL.pure rfl rfl rfl (PureOp.move rfl) ?_
  refine SL.pure rfl rfl rfl (PureOp.eql rfl rfl) ?_
  refine SL.pure rfl rfl rfl (PureOp.move rfl) ?_
  refine SL.newg 5 false rfl ?_
  refine SL.gpure (c := 1) rfl rfl rfl rfl rfl rfl rfl (PureOp.move rfl) ?_
  refine SL.gpure (c := 1) rfl rfl rfl rfl rfl rfl rfl (PureOp.eql rfl rfl) ?_
  refine SL.pure rfl rfl rfl (PureOp.or_ rfl rfl rfl rfl) ?_
  refine SL.nil_then ?_
  refine WC.cond rfl (fun h1 => ?_) (fun h1 => ?_)
  · try simp only [Bool.and_eq_true, Bool.or_eq_true, Bool.not_eq_true', Bool.not_eq_false', Bool.and_eq_false_iff, Bool.or_eq_false_iff, decide_eq_true_eq, decide_eq_false_iff_not, Int.not_lt, Int.not_le, ne_eq, Decidable.not_not] at h1
    refine WC.seq ?_
    refine WC.region ?_
    refine SL.pure rfl rfl rfl (PureOp.assign rfl) ?_
    refine SL.nil_then ?_
    refine WC.ret ?_
    refine QX.ret_then ?_
    refine QX.ret1 rfl rfl ?_
    intro w hw
    rw [knumI, if_pos (by omega)]
  · try simp only [Bool.and_eq_true, Bool.or_eq_true, Bool.not_eq_true', Bool.not_eq_false', Bool.and_eq_false_iff, Bool.or_eq_false_iff, decide_eq_true_eq, decide_eq_false_iff_not, Int.not_lt, Int.not_le, ne_eq, Decidable.not_not] at h1
    refine WC.skip ?_
    refine QX.then_ ?_
    refine WC.seq ?_
    refine WC.seq ?_
    refine WC.region ?_
    refine SL.pure rfl rfl rfl (PureOp.move rfl) ?_
    refine SL.pure rfl rfl rfl (PureOp.eql rfl rfl) ?_
    refine SL.pure rfl rfl rfl (PureOp.move rfl) ?_
    refine SL.newg 11 false rfl ?_
    refine SL.gpure (c := 2) rfl rfl rfl rfl rfl rfl rfl (PureOp.move rfl) ?_
    refine SL.gpure (c := 2) rfl rfl rfl rfl rfl rfl rfl (PureOp.eql rfl rfl) ?_
    refine SL.pure rfl rfl rfl (PureOp.or_ rfl rfl rfl rfl) ?_
    refine SL.pure rfl rfl rfl (PureOp.move rfl) ?_
    refine SL.newg 15 false rfl ?_
    refine SL.gpure (c := 3) rfl rfl rfl rfl rfl rfl rfl (PureOp.move rfl) ?_
    refine SL.gpure (c := 3) rfl rfl rfl rfl rfl rfl rfl (PureOp.eql rfl rfl) ?_
    refine SL.pure rfl rfl rfl (PureOp.or_ rfl rfl rfl rfl) ?_
    refine SL.nil_then ?_
    refine WC.cond rfl (fun h2 => ?_) (fun h2 => ?_)
    · try simp only [Bool.and_eq_true, Bool.or_eq_true, Bool.not_eq_true', Bool.not_eq_false', Bool.and_eq_false_iff, Bool.or_eq_false_iff, decide_eq_true_eq, decide_eq_false_iff_not, Int.not_lt, Int.not_le, ne_eq, Decidable.not_not] at h2
      refine WC.seq ?_
      refine WC.region ?_
      refine SL.pure rfl rfl rfl (PureOp.assign rfl) ?_
      refine SL.nil_then ?_
      refine WC.ret ?_
      refine QX.ret_then ?_
      refine QX.ret1 rfl rfl ?_
      intro w hw
      rw [knumI, if_neg (by omega), if_pos (by omega)]
    · try simp only [Bool.and_eq_true, Bool.or_eq_true, Bool.not_eq_true', Bool.not_eq_false', Bool.and_eq_false_iff, Bool.or_eq_false_iff, decide_eq_true_eq, decide_eq_false_iff_not, Int.not_lt, Int.not_le, ne_eq, Decidable.not_not] at h2
      refine WC.skip ?_
      refine QX.then_ ?_
      refine WC.seq ?_
      refine WC.region ?_
      refine SL.pure rfl rfl rfl (PureOp.assign rfl) ?_
      refine SL.nil_then ?_
      refine WC.ret ?_
      refine QX.ret1 rfl rfl ?_
      intro w hw
      rw [knumI, if_neg (by omega), if_neg (by omega)]

set_option maxHeartbeats 4000000 in
set_option maxRecDepth 100000 in
theorem period_any (f t d : Int) (w0 : World) : FnC Try.prog 85 [.agg #[.int .i64 f, .int .i64 t, .int .i64 d]] w0 fun v w' => ∃ e, v = .int .i64 e := by
  refine fnc (N := 32) Try.func85 rfl rfl rfl ?_
  refine WC.seq ?_
  refine WC.region ?_
  refine SL.box rfl rfl rfl (fun b1 hb1 => ?_)
  refine SL.norm [_] rfl ?_
  refine SL.pure rfl rfl rfl (PureOp.assign rfl) ?_
  refine SL.nil_then ?_
  refine WC.seq ?_
  refine WC.seq ?_
  refine WC.region ?_
  refine SL.pure rfl rfl rfl (PureOp.fieldAddrT 0 Try.underlying69 rfl sz3 rfl rfl) ?_
  refine SL.pure rfl rfl rfl (PureOp.load (v := .int .i64 f) Try.underlying3 rfl rfl (fun _ => (CellIs.cells 0 rfl rfl))) ?_
  refine SL.pure rfl rfl rfl (PureOp.lss rfl rfl) ?_
  refine SL.pure rfl rfl rfl (PureOp.move rfl) ?_
  refine SL.newg 6 false rfl ?_
  refine SL.gpure (c := 1) rfl rfl rfl rfl rfl rfl rfl (PureOp.fieldAddrT 0 Try.underlying69 rfl sz3 rfl rfl) ?_
  refine SL.gpure (c := 1) rfl rfl rfl rfl rfl rfl rfl (PureOp.load (v := .int .i64 f) Try.underlying3 rfl rfl (fun _ => (CellIs.cells 0 rfl rfl))) ?_
  refine SL.gpure (c := 1) rfl rfl rfl rfl rfl rfl rfl (PureOp.fieldAddrT 1 Try.underlying69 rfl sz3 rfl rfl) ?_
  refine SL.gpure (c := 1) rfl rfl rfl rfl rfl rfl rfl (PureOp.load (v := .int .i64 t) Try.underlying3 rfl rfl (fun _ => (CellIs.cells 0 rfl rfl))) ?_
  refine SL.gpure (c := 1) rfl rfl rfl rfl rfl rfl rfl (PureOp.gtr rfl rfl) ?_
  refine SL.pure rfl rfl rfl (PureOp.or_ rfl rfl rfl rfl) ?_
  refine SL.pure rfl rfl rfl (PureOp.move rfl) ?_
  refine SL.newg 13 false rfl ?_
  refine SL.gpure (c := 2) rfl rfl rfl rfl rfl rfl rfl (PureOp.fieldAddrT 1 Try.underlying69 rfl sz3 rfl rfl) ?_
  refine SL.gpure (c := 2) rfl rfl rfl rfl rfl rfl rfl (PureOp.load (v := .int .i64 t) Try.underlying3 rfl rfl (fun _ => (CellIs.cells 0 rfl rfl))) ?_
  refine SL.gpure (c := 2) rfl rfl rfl rfl rfl rfl rfl (PureOp.geq rfl rfl) ?_
  refine SL.pure rfl rfl rfl (PureOp.or_ rfl rfl rfl rfl) ?_
  refine SL.nil_then ?_
  refine WC.cond rfl (fun h1 => ?_) (fun h1 => ?_)
  · try simp only [Bool.and_eq_true, Bool.or_eq_true, Bool.not_eq_true', Bool.not_eq_false', Bool.and_eq_false_iff, Bool.or_eq_false_iff, decide_eq_true_eq, decide_eq_false_iff_not, Int.not_lt, Int.not_le, ne_eq, Decidable.not_not] at h1
    refine WC.seq ?_
    refine WC.region ?_
    refine SL.pure rfl rfl rfl (PureOp.assign rfl) ?_
    refine SL.nil_then ?_
    refine WC.ret ?_
    refine QX.ret_then ?_
    refine QX.ret1 rfl rfl ?_
    intro w hw
    exact ⟨_, rfl⟩
  · try simp only [Bool.and_eq_true, Bool.or_eq_true, Bool.not_eq_true', Bool.not_eq_false', Bool.and_eq_false_iff, Bool.or_eq_false_iff, decide_eq_true_eq, decide_eq_false_iff_not, Int.not_lt, Int.not_le, ne_eq, Decidable.not_not] at h1
    refine WC.skip ?_
    refine QX.then_ ?_
    refine WC.seq ?_
    refine WC.seq ?_
    refine WC.region ?_
    refine SL.pure rfl rfl rfl (PureOp.fieldAddrT 1 Try.underlying69 rfl sz3 rfl rfl) ?_
    refine SL.pure rfl rfl rfl (PureOp.load (v := .int .i64 t) Try.underlying3 rfl rfl (fun _ => (CellIs.cells 0 rfl rfl))) ?_
    refine SL.pure rfl rfl rfl (PureOp.fieldAddrT 0 Try.underlying69 rfl sz3 rfl rfl) ?_
    refine SL.pure rfl rfl rfl (PureOp.load (v := .int .i64 f) Try.underlying3 rfl rfl (fun _ => (CellIs.cells 0 rfl rfl))) ?_
    refine SL.pure rfl rfl rfl (PureOp.sub rfl rfl (fun _ => by omega)) ?_
    refine SL.pure rfl rfl rfl (PureOp.geq rfl rfl) ?_
    refine SL.nil_then ?_
    refine WC.cond rfl (fun h2 => ?_) (fun h2 => ?_)
    · try simp only [Bool.and_eq_true, Bool.or_eq_true, Bool.not_eq_true', Bool.not_eq_false', Bool.and_eq_false_iff, Bool.or_eq_false_iff, decide_eq_true_eq, decide_eq_false_iff_not, Int.not_lt, Int.not_le, ne_eq, Decidable.not_not] at h2
      refine WC.seq ?_
      refine WC.region ?_
      refine SL.pure rfl rfl rfl (PureOp.assign rfl) ?_
      refine SL.nil_then ?_
      refine WC.ret ?_
      refine QX.ret_then ?_
      refine QX.ret1 rfl rfl ?_
      intro w hw
      exact ⟨_, rfl⟩
    · try simp only [Bool.and_eq_true, Bool.or_eq_true, Bool.not_eq_true', Bool.not_eq_false', Bool.and_eq_false_iff, Bool.or_eq_false_iff, decide_eq_true_eq, decide_eq_false_iff_not, Int.not_lt, Int.not_le, ne_eq, Decidable.not_not] at h2
      refine WC.skip ?_
      refine QX.then_ ?_
      refine WC.seq ?_
      refine WC.seq ?_
      refine WC.region ?_
      refine SL.pure rfl rfl rfl (PureOp.fieldAddrT 2 Try.underlying69 rfl sz3 rfl rfl) ?_
      refine SL.pure rfl rfl rfl (PureOp.load (v := .int .i64 d) Try.underlying3 rfl rfl (fun _ => (CellIs.cells 0 rfl rfl))) ?_
      refine SL.pure rfl rfl rfl (PureOp.lss rfl rfl) ?_
      refine SL.pure rfl rfl rfl (PureOp.move rfl) ?_
      refine SL.newg 27 false rfl ?_
      refine SL.gpure (c := 3) rfl rfl rfl rfl rfl rfl rfl (PureOp.fieldAddrT 2 Try.underlying69 rfl sz3 rfl rfl) ?_
      refine SL.gpure (c := 3) rfl rfl rfl rfl rfl rfl rfl (PureOp.load (v := .int .i64 d) Try.underlying3 rfl rfl (fun _ => (CellIs.cells 0 rfl rfl))) ?_
      refine SL.gpure (c := 3) rfl rfl rfl rfl rfl rfl rfl (PureOp.gtr rfl rfl) ?_
      refine SL.pure rfl rfl rfl (PureOp.or_ rfl rfl rfl rfl) ?_
      refine SL.nil_then ?_
      refine WC.cond rfl (fun h3 => ?_) (fun h3 => ?_)
      · try simp only [Bool.and_eq_true, Bool.or_eq_true, Bool.not_eq_true', Bool.not_eq_false', Bool.and_eq_false_iff, Bool.or_eq_false_iff, decide_eq_true_eq, decide_eq_false_iff_not, Int.not_lt, Int.not_le, ne_eq, Decidable.not_not] at h3
        refine WC.seq ?_
        refine WC.region ?_
        refine SL.pure rfl rfl rfl (PureOp.assign rfl) ?_
        refine SL.nil_then ?_
        refine WC.ret ?_
        refine QX.ret_then ?_
        refine QX.ret1 rfl rfl ?_
        intro w hw
        exact ⟨_, rfl⟩
      · try simp only [Bool.and_eq_true, Bool.or_eq_true, Bool.not_eq_true', Bool.not_eq_false', Bool.and_eq_false_iff, Bool.or_eq_false_iff, decide_eq_true_eq, decide_eq_false_iff_not, Int.not_lt, Int.not_le, ne_eq, Decidable.not_not] at h3
        refine WC.skip ?_
        refine QX.then_ ?_
        refine WC.seq ?_
        refine WC.region ?_
        refine SL.pure rfl rfl rfl (PureOp.assign rfl) ?_
        refine SL.nil_then ?_
        refine WC.ret ?_
        refine QX.ret1 rfl rfl ?_
        intro w hw
        exact ⟨_, rfl⟩

set_option maxHeartbeats 4000000 in
set_option maxRecDepth 100000 in
theorem coded_ok (k : Int) (s : ByteArray) (hsz : s.size ≤ 9223372036854775807) (w0 : World) : FnC Try.prog 87 [.int .i64 k, .string s] w0 fun v w' => v = .bool (codB k s) := by
  refine fnc (N := 15) Try.func87 rfl rfl rfl ?_
  refine WC.seq ?_
  refine WC.region ?_
  refine SL.pure rfl rfl rfl (PureOp.assign rfl) ?_
  refine SL.nil_then ?_
  refine WC.seq ?_
  refine WC.seq ?_
  refine WC.region ?_
  refine SL.pure rfl rfl rfl (PureOp.move rfl) ?_
  refine SL.pure rfl rfl rfl (PureOp.eql rfl rfl) ?_
  refine SL.nil_then ?_
  refine WC.cond rfl (fun h1 => ?_) (fun h1 => ?_)
  · try simp only [Bool.and_eq_true, Bool.or_eq_true, Bool.not_eq_true', Bool.not_eq_false', Bool.and_eq_false_iff, Bool.or_eq_false_iff, decide_eq_true_eq, decide_eq_false_iff_not, Int.not_lt, Int.not_le, ne_eq, Decidable.not_not] at h1
    refine WC.seq ?_
    refine WC.region ?_
    refine SL.pure rfl rfl rfl (PureOp.move rfl) ?_
    refine SL.calle rfl rfl rfl rfl rfl rfl callable59 (fun w hw => carrier_ok s (by omega) w) ?_
    refine SL.norm [] rfl ?_
    refine SL.pure rfl rfl rfl (PureOp.assign rfl) ?_
    refine SL.nil_then ?_
    refine WC.ret ?_
    refine QX.ret_then ?_
    refine QX.ret1 rfl rfl ?_
    intro w hw
    rw [codB, if_pos h1]
  · try simp only [Bool.and_eq_true, Bool.or_eq_true, Bool.not_eq_true', Bool.not_eq_false', Bool.and_eq_false_iff, Bool.or_eq_false_iff, decide_eq_true_eq, decide_eq_false_iff_not, Int.not_lt, Int.not_le, ne_eq, Decidable.not_not] at h1
    refine WC.skip ?_
    refine QX.then_ ?_
    refine WC.seq ?_
    refine WC.seq ?_
    refine WC.region ?_
    refine SL.pure rfl rfl rfl (PureOp.move rfl) ?_
    refine SL.pure rfl rfl rfl (PureOp.eql rfl rfl) ?_
    refine SL.nil_then ?_
    refine WC.cond rfl (fun h2 => ?_) (fun h2 => ?_)
    · try simp only [Bool.and_eq_true, Bool.or_eq_true, Bool.not_eq_true', Bool.not_eq_false', Bool.and_eq_false_iff, Bool.or_eq_false_iff, decide_eq_true_eq, decide_eq_false_iff_not, Int.not_lt, Int.not_le, ne_eq, Decidable.not_not] at h2
      refine WC.seq ?_
      refine WC.region ?_
      refine SL.pure rfl rfl rfl (PureOp.move rfl) ?_
      refine SL.calle rfl rfl rfl rfl rfl rfl callable53 (fun w hw => airport_ok s (by omega) w) ?_
      refine SL.norm [] rfl ?_
      refine SL.pure rfl rfl rfl (PureOp.assign rfl) ?_
      refine SL.nil_then ?_
      refine WC.ret ?_
      refine QX.ret_then ?_
      refine QX.ret1 rfl rfl ?_
      intro w hw
      rw [codB, if_neg h1, if_pos h2]
    · try simp only [Bool.and_eq_true, Bool.or_eq_true, Bool.not_eq_true', Bool.not_eq_false', Bool.and_eq_false_iff, Bool.or_eq_false_iff, decide_eq_true_eq, decide_eq_false_iff_not, Int.not_lt, Int.not_le, ne_eq, Decidable.not_not] at h2
      refine WC.skip ?_
      refine QX.then_ ?_
      refine WC.seq ?_
      refine WC.region ?_
      refine SL.pure rfl rfl rfl (PureOp.move rfl) ?_
      refine SL.calle rfl rfl rfl rfl rfl rfl callable60 (fun w hw => code_ok s (by omega) 3 3 w) ?_
      refine SL.norm [] rfl ?_
      refine SL.pure rfl rfl rfl (PureOp.assign rfl) ?_
      refine SL.nil_then ?_
      refine WC.ret ?_
      refine QX.ret1 rfl rfl ?_
      intro w hw
      rw [codB, if_neg h1, if_neg h2]

set_option maxHeartbeats 4000000 in
set_option maxRecDepth 100000 in
theorem has_ok (l : List ByteArray) (ao : Option Addr) (n cap : Nat) (hn : n ≤ l.length) (s : ByteArray) (w0 : World) (sT : SliceIn w0 1 ao n cap (rowsF encStr l)) : FnC Try.prog 88 [.slice ao n cap, .string s] w0 fun v w' => v = .bool (hasB l n s) := by
  have hnm : (n : Int) ≤ 9223372036854775807 := by
    have q1 := sT.le; have q2 := sT.max; simp only [maxLen] at q2; omega
  refine fnc (N := 18) Try.func88 rfl rfl rfl ?_
  refine WC.seq ?_
  refine WC.region ?_
  refine SL.pure rfl rfl rfl (PureOp.assign rfl) ?_
  refine SL.nil_then ?_
  refine WC.seq ?_
  refine WC.seq ?_
  refine WC.region ?_
  refine SL.pure rfl rfl rfl (PureOp.assign rfl) ?_
  refine SL.nil_then ?_
  refine WC.block ?_
  refine WC.loop (σ := Nat) (fun q_ => [(0, 0, .slice ao n cap), (1, 0, .string s), (5, 0, .int .i64 ((q_ : Nat) : Int))]) (fun q_ => []) (fun q_ => q_ ≤ n ∧ allK (fun j => !((nth l j).toList == s.toList)) q_ = true) (fun q_ => n - q_) 0 (0) (⟨Nat.zero_le _, rfl⟩) ⟨rfl, rfl, rfl, rfl, rfl, rfl, trivial⟩ rfl ?_
  rintro k ⟨hk, hz⟩
  refine WC.seq ?_
  refine WC.seq ?_
  refine WC.region ?_
  refine SL.pure rfl rfl rfl (PureOp.move rfl) ?_
  refine SL.pure rfl rfl rfl (PureOp.move rfl) ?_
  refine SL.pure rfl rfl rfl (PureOp.len rfl Try.underlying70) ?_
  refine SL.pure rfl rfl rfl (PureOp.lss rfl rfl) ?_
  refine SL.nil_then ?_
  refine WC.cond rfl (fun h1 => ?_) (fun h1 => ?_)
  · try simp only [Bool.and_eq_true, Bool.or_eq_true, Bool.not_eq_true', Bool.not_eq_false', Bool.and_eq_false_iff, Bool.or_eq_false_iff, decide_eq_true_eq, decide_eq_false_iff_not, Int.not_lt, Int.not_le, ne_eq, Decidable.not_not] at h1
    refine WC.skip ?_
    refine QX.then_ ?_
    refine WC.seq ?_
    refine WC.block ?_
    refine WC.seq ?_
    refine WC.region ?_
    refine SL.pure rfl rfl rfl (PureOp.move rfl) ?_
    refine SL.pure rfl rfl rfl (PureOp.move rfl) ?_
    refine SL.pure rfl rfl rfl (PureOp.indexAddrN Try.underlying70 sz9 rfl rfl (AoOk.in_ sT) (fun _ => by omega)) ?_
    refine SL.pure rfl rfl rfl (PureOp.load (v := .string (nth l k)) Try.underlying9 rfl rfl (fun _ => (CellIs.in_ sT k 0 (by omega) (by omega)))) ?_
    refine SL.pure rfl rfl rfl (PureOp.move rfl) ?_
    refine SL.pure rfl rfl rfl (PureOp.eqls rfl rfl) ?_
    refine SL.nil_then ?_
    refine WC.cond rfl (fun h2 => ?_) (fun h2 => ?_)
    · try simp only [Bool.and_eq_true, Bool.or_eq_true, Bool.not_eq_true', Bool.not_eq_false', Bool.and_eq_false_iff, Bool.or_eq_false_iff, decide_eq_true_eq, decide_eq_false_iff_not, Int.not_lt, Int.not_le, ne_eq, Decidable.not_not] at h2
      refine WC.seq ?_
      refine WC.region ?_
      refine SL.pure rfl rfl rfl (PureOp.assign rfl) ?_
      refine SL.nil_then ?_
      refine WC.ret ?_
      refine QX.ret_in ?_
      refine QX.ret_then ?_
      refine QX.ret_then ?_
      refine QX.ret_in ?_
      refine QX.ret_then ?_
      refine QX.ret1 rfl rfl ?_
      intro w hw
      rw [hasB, allK_not (k := k) (by omega) (by simpa using h2)]; rfl
    · try simp only [Bool.and_eq_true, Bool.or_eq_true, Bool.not_eq_true', Bool.not_eq_false', Bool.and_eq_false_iff, Bool.or_eq_false_iff, decide_eq_true_eq, decide_eq_false_iff_not, Int.not_lt, Int.not_le, ne_eq, Decidable.not_not] at h2
      refine WC.skip ?_
      refine QX.normal_in ?_
      refine QX.then_ ?_
      refine WC.region ?_
      refine SL.pure rfl rfl rfl (PureOp.move rfl) ?_
      refine SL.pure rfl rfl rfl (PureOp.addN (k := 1) rfl rfl (fun _ => by omega)) ?_
      refine SL.pure rfl rfl rfl (PureOp.assign rfl) ?_
      refine SL.nil ?_
      refine QX.round 0 (k + 1) ⟨⟨(by first | omega | (dsimp only; omega)), allK_next hz (by simpa using h2)⟩, by first | omega | (dsimp only; omega)⟩ ⟨rfl, rfl, rfl, rfl, rfl, rfl, trivial⟩ rfl
  · try simp only [Bool.and_eq_true, Bool.or_eq_true, Bool.not_eq_true', Bool.not_eq_false', Bool.and_eq_false_iff, Bool.or_eq_false_iff, decide_eq_true_eq, decide_eq_false_iff_not, Int.not_lt, Int.not_le, ne_eq, Decidable.not_not] at h1
    refine WC.exit ?_
    refine QX.exit_then ?_
    refine QX.exit_then ?_
    refine QX.exit_hit ?_
    refine QX.then_ ?_
    refine WC.seq ?_
    refine WC.region ?_
    refine SL.pure rfl rfl rfl (PureOp.assign rfl) ?_
    refine SL.nil_then ?_
    refine WC.ret ?_
    refine QX.ret1 rfl rfl ?_
    intro w hw
    rw [hasB, show n = k from by omega, hz]; rfl

end Go.Proofs.Ytblmafknmeicfaa
