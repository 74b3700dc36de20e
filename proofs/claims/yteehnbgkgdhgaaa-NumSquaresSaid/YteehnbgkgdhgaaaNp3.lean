/-
  The plain law of squares: roots, lengths and their squares.
-/
import Derived.Test.YteehnbgkgdhgaaaNp1
import Derived.Test.YteehnbgkgdhgaaaPNumSx1
namespace Go.Proofs.Yteehnbgkgdhgaaa.Pure
open Go.RowKit Go.Proofs.Yteehnbgkgdhgaaa.NM Go.Proofs.Yteehnbgkgdhgaaa.Spec Go.Proofs.Yteehnbgkgdhgaaa.Given Go.Proofs.Yteehnbgkgdhgaaa.PNumS Go.Proofs.YteehnbgkgdhgaaaW.PrintWords Go.Proofs.YteehnbgkgdhgaaaW.PrintLast Go.Proofs.YteehnbgkgdhgaaaW.PrintMore
set_option linter.unusedVariables false

theorem example_trueS : PNumS.imageeditorlaw01_example.f = some true := by decide +kernel

theorem sqrtS_facts (n : Int) (h0 : 0 ≤ n) (h1 : n ≤ 9223372036854775807) : 0 ≤ sqrtS n ∧ sqrtS n ≤ 3037000499 ∧ sqrtS n * sqrtS n ≤ n ∧ n < (sqrtS n + 1) * (sqrtS n + 1) := by
  unfold sqrtS
  have ha := rootN_sq n.toNat
  have hb := rootN_lt n.toNat
  generalize rootN n.toNat = r at *
  have hr : r ≤ 3037000499 := by
    refine Nat.le_of_not_lt fun h => ?_
    have : 3037000500 * 3037000500 ≤ r * r := Nat.mul_le_mul (by omega) (by omega)
    omega
  have hc : n.toNat < (r + 1) * (r + 1) := by omega
  have e1 : ((r * r : Nat) : Int) = (r : Int) * r := by simp
  have e2 : (((r + 1) * (r + 1) : Nat) : Int) = ((r : Int) + 1) * (r + 1) := by simp
  refine ⟨by omega, by omega, by omega, by omega⟩
theorem hypotS_facts (x y : Int) (hx : I64 x) (hy : I64 y) :
    0 ≤ hypotS x y ∧ hypotS x y ≤ 9223372036854775807 ∧ (hypotS x y ≠ 9223372036854775807 → mag x ≤ hypotS x y ∧ mag y ≤ hypotS x y) ∧ hypotS x y ≤ mag x + mag y := by
  have hs1 := mag_sq x
  have hs2 := mag_sq y
  have hm1 := mag_nonneg x
  have hm2 := mag_nonneg y
  have hq1 := (sq_bound hx).1
  have hq2 := (sq_bound hy).1
  unfold hypotS
  have ha := rootN_sq (x * x + y * y).toNat
  have hb := rootN_lt (x * x + y * y).toNat
  have hc := rootN_le (x * x + y * y).toNat
  have hN : ((x * x + y * y).toNat : Int) = x * x + y * y := Int.toNat_of_nonneg (by omega)
  generalize rootN (x * x + y * y).toNat = r at *
  generalize (x * x + y * y).toNat = M at *
  have e1 : ((r * r : Nat) : Int) = (r : Int) * r := by simp
  have e2 : (((r + 1) * (r + 1) : Nat) : Int) = ((r : Int) + 1) * (r + 1) := by simp
  have lt_sq : ∀ u v : Int, 0 ≤ u → 0 ≤ v → u * u < v * v → u < v := by
    intro u v hu hv h
    refine Int.not_le.mp fun hle => ?_
    have := Int.mul_le_mul hle hle hv hu
    omega
  refine ⟨by omega, by omega, fun hne => ?_, ?_⟩
  · have hlt : M < (r + 1) * (r + 1) := by omega
    have h1 := lt_sq (mag x) (r + 1) hm1 (by omega) (by omega)
    have h2 := lt_sq (mag y) (r + 1) hm2 (by omega) (by omega)
    omega
  · have h3 : (r : Int) * r < (mag x + mag y + 1) * (mag x + mag y + 1) := by
      have : 0 ≤ mag x * mag y := Int.mul_nonneg hm1 hm2
      have e3 : (mag x + mag y + 1) * (mag x + mag y + 1) = mag x * mag x + mag y * mag y + 2 * (mag x * mag y) + 2 * mag x + 2 * mag y + 1 := by grind
      omega
    have := lt_sq (r : Int) _ (by omega) (by omega) h3
    omega
theorem hypotS_comm (x y : Int) : hypotS x y = hypotS y x := by unfold hypotS; rw [Int.add_comm]
theorem neg_i64 {x : Int} (hx : I64 x) : I64 (wrap64 (-x)) := by unfold I64 wrap64 at *; omega
theorem neg_sq {x : Int} (hx : I64 x) : wrap64 (-x) * wrap64 (-x) = x * x := by
  by_cases h : x = -9223372036854775808
  · subst h; unfold wrap64; decide
  · rw [w64 (by unfold I64 at *; omega), Int.neg_mul_neg]
theorem mag_i64 {r : Int} (h0 : 0 ≤ r) : mag r = r := by unfold mag; rw [if_neg (by omega)]

theorem squares_j0 (k : Nat) (x y : Int) (hx : I64 x) (hy : I64 y) : imageeditorlaw01_NumSquares.j0 (k + 1) x y = some true := by
  have hn1 := neg_i64 hx
  have hn2 := neg_i64 hy
  obtain ⟨h1, h2, h3, h4⟩ := hypotS_facts x y hx hy
  have m1 := mag_le hx.1 hx.2
  have m2 := mag_le hy.1 hy.2
  have n1 := mag_nonneg x
  have n2 := mag_nonneg y
  have e1 : hypotS (wrap64 (-x)) y = hypotS x y := by unfold hypotS; rw [neg_sq hx]
  have e2 : hypotS x (wrap64 (-y)) = hypotS x y := by unfold hypotS; rw [neg_sq hy]
  simp only [imageeditorlaw01_NumSquares.j0, num_Hypot.f, imageeditorref01_Abs.f, hx, hy, hn1, hn2, and_self, if_true, Option.bind_some, e1, e2, hypotS_comm y x, example_trueS]
  rw [if_neg (by omega), IntKind.wrap_u64, IntKind.wrap_u64]
  have emx : mx (mag x) (mag y) = max (mag x) (mag y) := mx_max _ _
  rw [emx]
  by_cases ht : hypotS x y = 9223372036854775807
  · rw [if_pos ht]
    split
    · rfl
    · rw [if_pos (by omega)]
  · have := h3 ht
    rw [if_neg ht, if_neg (by omega)]
    split
    · rfl
    · rw [if_pos (by omega)]

theorem NumSquares : imageeditorlaw01_NumSquares.Pure := by
  intro n x y wn wx wy
  have hn := wf_i64 wn
  have hx := wf_i64 wx
  have hy := wf_i64 wy
  refine ⟨1, ?_⟩
  have hj : imageeditorlaw01_NumSquares.j0 1 x y = some true := squares_j0 0 x y hx hy
  unfold imageeditorlaw01_NumSquares.f num_Sqrt.f
  rw [if_pos hn, Option.bind_some]
  by_cases h0 : n ≥ 0
  · rw [if_pos h0]
    obtain ⟨a, b, c, d⟩ := sqrtS_facts n h0 hn.2
    have hr : I64 (sqrtS n) := by unfold I64; omega
    have habs : imageeditorref01_Abs.f (sqrtS n) = some (sqrtS n) := by unfold imageeditorref01_Abs.f; rw [if_pos hr, mag_i64 a]
    have hu : U64 (sqrtS n) := by unfold U64; omega
    have hu1 : U64 (sqrtS n + 1) := by unfold U64; omega
    have hp0 : imageeditorref01_Product.f (sqrtS n) (sqrtS n) = some (sqrtS n * sqrtS n / 18446744073709551616, sqrtS n * sqrtS n % 18446744073709551616) := by unfold imageeditorref01_Product.f; rw [if_pos ⟨hu, hu⟩]
    have hp1 : imageeditorref01_Product.f (sqrtS n + 1) (sqrtS n + 1) = some ((sqrtS n + 1) * (sqrtS n + 1) / 18446744073709551616, (sqrtS n + 1) * (sqrtS n + 1) % 18446744073709551616) := by unfold imageeditorref01_Product.f; rw [if_pos ⟨hu1, hu1⟩]
    rw [habs, Option.bind_some, Option.bind_some, hp0, Option.bind_some, Option.bind_some, Option.bind_some, wu (x := sqrtS n + 1) (by omega) (by omega), hp1, Option.bind_some]
    have q1 : (sqrtS n + 1) * (sqrtS n + 1) ≤ 9223372037000250000 := by
      have : (sqrtS n + 1) * (sqrtS n + 1) ≤ 3037000500 * 3037000500 := Int.mul_le_mul (by omega) (by omega) (by omega) (by omega)
      omega
    have q0 : 0 ≤ sqrtS n * sqrtS n := Int.mul_nonneg a a
    unfold I64 at hn
    rw [wu (x := n) (by omega) (by omega)]
    rw [if_neg (by omega), if_neg (by omega), if_neg (by omega), if_pos (by omega), if_neg (by omega)]
    exact hj
  · rw [if_neg h0]; exact hj
end Go.Proofs.Yteehnbgkgdhgaaa.Pure
