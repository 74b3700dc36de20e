/-
  The reference's long division of 128 bits is division.
-/
import Derived.Test.YteehnbgkgdhgaaaNm3
namespace Go.Proofs.Yteehnbgkgdhgaaa.NM
open Go.RowKit Go.Proofs.Yteehnbgkgdhgaaa.PNum Go.Proofs.YteehnbgkgdhgaaaW.PrintWords Go.Proofs.YteehnbgkgdhgaaaW.PrintLast Go.Proofs.YteehnbgkgdhgaaaW.PrintMore
set_option linter.unusedVariables false

theorem quotient_l0 (d : Int) (hd0 : 0 < d) (hd : d ≤ 9223372036854775808) : ∀ (m : Nat) (k : Nat) (x0 x1 q1 q0 r T P : Int),
    U64 x0 → U64 x1 → 0 ≤ q1 → U64 q0 → 0 ≤ r → r < d → m ≤ 128 → m < k →
    (q1 * 18446744073709551616 + q0 + 1) * ((2 ^ m : Nat) : Int) ≤ 340282366920938463463374607431768211456 →
    x0 * 18446744073709551616 + x1 = T * P → 0 ≤ T → T < ((2 ^ m : Nat) : Int) → P * ((2 ^ m : Nat) : Int) = 340282366920938463463374607431768211456 → 0 < P →
    ∃ q1' q0' r', imageeditorref01_Quotient.l0 k x0 x1 d q1 q0 r ((m : Int) - 1) = some (q1', q0', r') ∧ 0 ≤ q1' ∧ U64 q0' ∧ 0 ≤ r' ∧ r' < d ∧
      d * (q1' * 18446744073709551616 + q0') + r' = (d * (q1 * 18446744073709551616 + q0) + r) * ((2 ^ m : Nat) : Int) + T := by
  intro m
  induction m with
  | zero =>
    intro k x0 x1 q1 q0 r T P hx0 hx1 hq1 hq0 hr0 hr hm hk hQ hN hT0 hT hP hP0
    obtain ⟨k, rfl⟩ : ∃ j, k = j + 1 := ⟨k - 1, by omega⟩
    refine ⟨q1, q0, r, ?_, hq1, hq0, hr0, hr, ?_⟩
    · rw [imageeditorref01_Quotient.l0, if_neg (by omega)]
    · simp only [Nat.pow_zero] at hT ⊢
      have : T = 0 := by omega
      rw [this]; simp
  | succ m ih =>
    intro k x0 x1 q1 q0 r T P hx0 hx1 hq1 hq0 hr0 hr hm hk hQ hN hT0 hT hP hP0
    obtain ⟨k, rfl⟩ : ∃ j, k = j + 1 := ⟨k - 1, by omega⟩
    have e2 : ((2 ^ (m + 1) : Nat) : Int) = 2 * ((2 ^ m : Nat) : Int) := by rw [Nat.pow_succ]; omega
    have hMpos : 0 < ((2 ^ m : Nat) : Int) := by have : 0 < 2 ^ m := Nat.pow_pos (by omega); omega
    rw [e2] at hQ hT hP ⊢
    generalize ((2 ^ m : Nat) : Int) = M at *
    unfold U64 at hx0 hx1 hq0
    -- the top bit
    obtain ⟨t, T', hTt, hT'0, hT', ht⟩ : ∃ t T' : Int, T = t * M + T' ∧ 0 ≤ T' ∧ T' < M ∧ (t = 0 ∨ t = 1) := by
      by_cases h : T < M
      · exact ⟨0, T, by omega, hT0, h, .inl rfl⟩
      · exact ⟨1, T - M, by omega, by omega, by omega, .inr rfl⟩
    have hPM : P * M = 170141183460469231731687303715884105728 := by
      have : P * (2 * M) = 2 * (P * M) := by grind
      omega
    have hW0 : 0 ≤ T' * P := Int.mul_nonneg hT'0 (by omega)
    have hW : T' * P < 170141183460469231731687303715884105728 := by
      rw [← hPM, Int.mul_comm P M]; exact Int.mul_lt_mul_of_pos_right hT' hP0
    have hNt : x0 * 18446744073709551616 + x1 = t * 170141183460469231731687303715884105728 + T' * P := by
      rw [hN, hTt, ← hPM]; grind
    have hQ2 : q1 * 18446744073709551616 + q0 + 1 ≤ 170141183460469231731687303715884105728 := by
      have h1 : (q1 * 18446744073709551616 + q0 + 1) * 2 ≤ (q1 * 18446744073709551616 + q0 + 1) * (2 * M) := Int.mul_le_mul_of_nonneg_left (by omega) (by omega)
      omega
    have ex0 : x0 / 9223372036854775808 = t := by rcases ht with rfl | rfl <;> omega
    have eh : Go.bits .or .u64 (IntKind.u64.wrap (x0 * 2)) (x1 / 9223372036854775808) = x0 * 2 % 18446744073709551616 + x1 / 9223372036854775808 := by
      rw [IntKind.wrap_u64]
      exact or_hi _ _ 1 (by omega) (by omega) (by simp only [Nat.pow_one]; omega) (by simp only [Nat.pow_one]; omega) (by omega) (by omega)
    have er : Go.bits .or .u64 (IntKind.u64.wrap (r * 2)) t = r * 2 + t := by
      rw [wu (x := r * 2) (by omega) (by omega)]
      exact or_hi _ _ 1 (by omega) (by omega) (by simp only [Nat.pow_one]; omega) (by simp only [Nat.pow_one]; omega) (by omega) (by omega)
    have eq1 : Go.bits .or .u64 (IntKind.u64.wrap (q1 * 2)) (q0 / 9223372036854775808) = q1 * 2 + q0 / 9223372036854775808 := by
      rw [wu (x := q1 * 2) (by omega) (by omega)]
      exact or_hi _ _ 1 (by omega) (by omega) (by simp only [Nat.pow_one]; omega) (by simp only [Nat.pow_one]; omega) (by omega) (by omega)
    have eq0 : Go.bits .or .u64 (IntKind.u64.wrap (q0 * 2)) 1 = q0 * 2 % 18446744073709551616 + 1 := by
      rw [IntKind.wrap_u64]
      exact or_hi _ _ 1 (by omega) (by omega) (by simp only [Nat.pow_one]; omega) (by simp only [Nat.pow_one]; omega) (by omega) (by omega)
    have ei : wrap64 (((m + 1 : Nat) : Int) - 1 - 1) = (m : Int) - 1 := by rw [w64' (by omega) (by omega)]; omega
    rw [imageeditorref01_Quotient.l0, if_pos (by omega), if_neg (by omega), ex0, eh, er, eq1, eq0, ei]
    rw [IntKind.wrap_u64 (x1 * 2)]
    have hN' : (x0 * 2 % 18446744073709551616 + x1 / 9223372036854775808) * 18446744073709551616 + x1 * 2 % 18446744073709551616 = T' * (2 * P) := by
      have : T' * (2 * P) = 2 * (T' * P) := by grind
      rw [this]
      rcases ht with rfl | rfl <;> omega
    have hP' : 2 * P * M = 340282366920938463463374607431768211456 := by
      have : 2 * P * M = 2 * (P * M) := by grind
      omega
    by_cases hge : r * 2 + t ≥ d
    · rw [if_pos hge, wu (x := r * 2 + t - d) (by omega) (by omega)]
      obtain ⟨a, b, c, h1, h2, h3, h4, h5, h6⟩ := ih k (x0 * 2 % 18446744073709551616 + x1 / 9223372036854775808) (x1 * 2 % 18446744073709551616) (q1 * 2 + q0 / 9223372036854775808) (q0 * 2 % 18446744073709551616 + 1) (r * 2 + t - d) T' (2 * P)
        (by unfold U64; omega) (by unfold U64; omega) (by omega) (by unfold U64; omega) (by omega) (by omega) (by omega) (by omega)
        (by have e : (q1 * 2 + q0 / 9223372036854775808) * 18446744073709551616 + (q0 * 2 % 18446744073709551616 + 1) + 1 = 2 * (q1 * 18446744073709551616 + q0 + 1) := by omega
            rw [e]; have : 2 * (q1 * 18446744073709551616 + q0 + 1) * M = (q1 * 18446744073709551616 + q0 + 1) * (2 * M) := by grind
            omega)
        hN' hT'0 hT' hP' (by omega)
      refine ⟨a, b, c, h1, h2, h3, h4, h5, ?_⟩
      rw [h6]
      have e : (q1 * 2 + q0 / 9223372036854775808) * 18446744073709551616 + (q0 * 2 % 18446744073709551616 + 1) = 2 * (q1 * 18446744073709551616 + q0) + 1 := by omega
      rw [e, hTt]
      generalize q1 * 18446744073709551616 + q0 = Q
      grind
    · rw [if_neg hge, IntKind.wrap_u64 (q0 * 2)]
      obtain ⟨a, b, c, h1, h2, h3, h4, h5, h6⟩ := ih k (x0 * 2 % 18446744073709551616 + x1 / 9223372036854775808) (x1 * 2 % 18446744073709551616) (q1 * 2 + q0 / 9223372036854775808) (q0 * 2 % 18446744073709551616) (r * 2 + t) T' (2 * P)
        (by unfold U64; omega) (by unfold U64; omega) (by omega) (by unfold U64; omega) (by omega) (by omega) (by omega) (by omega)
        (by have e : (q1 * 2 + q0 / 9223372036854775808) * 18446744073709551616 + (q0 * 2 % 18446744073709551616) + 1 = 2 * (q1 * 18446744073709551616 + q0) + 1 := by omega
            rw [e]; have : (2 * (q1 * 18446744073709551616 + q0) + 1) * M + M = (q1 * 18446744073709551616 + q0 + 1) * (2 * M) := by grind
            omega)
        hN' hT'0 hT' hP' (by omega)
      refine ⟨a, b, c, h1, h2, h3, h4, h5, ?_⟩
      rw [h6]
      have e : (q1 * 2 + q0 / 9223372036854775808) * 18446744073709551616 + q0 * 2 % 18446744073709551616 = 2 * (q1 * 18446744073709551616 + q0) := by omega
      rw [e, hTt]
      generalize q1 * 18446744073709551616 + q0 = Q
      grind

/-- what the reference's long division hands back -/
theorem quotient_eq (hi lo d : Int) (h0 : U64 hi) (h1 : U64 lo) (hd0 : 0 < d) (hd : d ≤ 9223372036854775808) :
    ∃ k q1 q0 r, imageeditorref01_Quotient.f k hi lo d = some (q1, q0, r) ∧ 0 ≤ q1 ∧ U64 q0 ∧ 0 ≤ r ∧ r < d ∧ hi * 18446744073709551616 + lo = d * (q1 * 18446744073709551616 + q0) + r := by
  obtain ⟨a, b, c, e1, e2, e3, e4, e5, e6⟩ := quotient_l0 d hd0 hd 128 129 hi lo 0 0 0 (hi * 18446744073709551616 + lo) 1 h0 h1 (by omega) (by unfold U64; omega) (by omega) hd0 (by omega) (by omega)
    (by simp only [Nat.reducePow]; omega) (by omega) (by unfold U64 at *; omega) (by simp only [Nat.reducePow]; unfold U64 at *; omega) (by simp only [Nat.reducePow]; omega) (by omega)
  refine ⟨129, a, b, c, ?_, e2, e3, e4, e5, ?_⟩
  · unfold imageeditorref01_Quotient.f; exact e1
  · rw [e6]; omega
end Go.Proofs.Yteehnbgkgdhgaaa.NM
