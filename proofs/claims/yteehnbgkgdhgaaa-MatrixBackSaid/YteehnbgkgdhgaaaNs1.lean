/-
  Contracts of package num and of its reference, said in plain arithmetic: the functions that the print takes.
-/
import Derived.Test.YteehnbgkgdhgaaaNm4
namespace Go.Proofs.Yteehnbgkgdhgaaa.Spec
open Go.RowKit Go.Proofs.Yteehnbgkgdhgaaa.NM Go.Proofs.YteehnbgkgdhgaaaW.PrintWords Go.Proofs.YteehnbgkgdhgaaaW.PrintLast Go.Proofs.YteehnbgkgdhgaaaW.PrintMore
set_option linter.unusedVariables false

theorem floor_any (a b : Int) (w : World) (ha : I64 a) (hb : I64 b) : Calls Try.prog 31 #[.int .i64 a, .int .i64 b] w fun e w' => e = .returned (.int .i64 (floorS a b)) ∧ Drawn0 w w' := PNum.num_Floor.calls a b _ w (floor_eq a b ha hb)
theorem rfloor_any (a b : Int) (w : World) (ha : I64 a) (hb : I64 b) : Calls Try.prog 32 #[.int .i64 a, .int .i64 b] w fun e w' => e = .returned (.int .i64 (floorS a b)) ∧ Drawn0 w w' := by
  obtain ⟨k, hk⟩ := rfloor_eq a b ha hb; exact PNum.imageeditorref01_Floor.calls k a b _ w hk
theorem div_any (a b : Int) (w : World) (ha : I64 a) (hb : I64 b) : Calls Try.prog 33 #[.int .i64 a, .int .i64 b] w fun e w' => e = .returned (.int .i64 (divS a b)) ∧ Drawn0 w w' := by
  obtain ⟨k, hk⟩ := div_eq a b ha hb; exact PNum.num_Div.calls k a b _ w hk
theorem rdiv_any (a b : Int) (w : World) (ha : I64 a) (hb : I64 b) : Calls Try.prog 34 #[.int .i64 a, .int .i64 b] w fun e w' => e = .returned (.int .i64 (divS a b)) ∧ Drawn0 w w' := by
  obtain ⟨k, hk⟩ := rdiv_eq a b ha hb; exact PNum.imageeditorref01_Div.calls k a b _ w hk
theorem clamp_any (x lo hi : Int) (w : World) : Calls Try.prog 35 #[.int .i64 x, .int .i64 lo, .int .i64 hi] w fun e w' => e = .returned (.int .i64 (clampS x lo hi)) ∧ Below w.heap.size w w' := PNum.num_Clamp.calls x lo hi _ w (clamp_eq x lo hi)
theorem rclamp_any (x lo hi : Int) (w : World) : Calls Try.prog 36 #[.int .i64 x, .int .i64 lo, .int .i64 hi] w fun e w' => e = .returned (.int .i64 (clampS x lo hi)) ∧ Below w.heap.size w w' := PNum.imageeditorref01_Clamp.calls x lo hi _ w (rclamp_eq x lo hi)
theorem mul_any (a b : Int) (w : World) : Calls Try.prog 38 #[.int .i64 a, .int .i64 b] w fun e w' => e = .returned (.int .i64 (mulS a b)) ∧ Below w.heap.size w w' := PNum.num_Mul.calls a b _ w (mul_eq a b)
theorem rmul_any (a b : Int) (w : World) : Calls Try.prog 39 #[.int .i64 a, .int .i64 b] w fun e w' => e = .returned (.int .i64 (mulS a b)) ∧ Below w.heap.size w w' := by
  obtain ⟨k, hk⟩ := rmul_eq a b; exact PNum.imageeditorref01_Mul.calls k a b _ w hk
theorem quo_any (a b : Int) (w : World) : Calls Try.prog 40 #[.int .i64 a, .int .i64 b] w fun e w' => e = .returned (.int .i64 (quoS a b)) ∧ Below w.heap.size w w' := PNum.num_Quo.calls a b _ w (quo_eq a b)
theorem rquo_any (a b : Int) (w : World) : Calls Try.prog 41 #[.int .i64 a, .int .i64 b] w fun e w' => e = .returned (.int .i64 (quoS a b)) ∧ Below w.heap.size w w' := by
  obtain ⟨k, hk⟩ := rquo_eq a b; exact PNum.imageeditorref01_Quo.calls k a b _ w hk
theorem lerp_any (a b t : Int) (w : World) : Calls Try.prog 42 #[.int .i64 a, .int .i64 b, .int .i64 t] w fun e w' => e = .returned (.int .i64 (lerpS a b t)) ∧ Below w.heap.size w w' := by
  obtain ⟨k, hk⟩ := lerp_eq a b t; exact PNum.num_Lerp.calls k a b t _ w hk
theorem rlerp_any (a b t : Int) (w : World) : Calls Try.prog 43 #[.int .i64 a, .int .i64 b, .int .i64 t] w fun e w' => e = .returned (.int .i64 (lerpS a b t)) ∧ Below w.heap.size w w' := by
  obtain ⟨k, hk⟩ := rlerp_eq a b t; exact PNum.imageeditorref01_Lerp.calls k a b t _ w hk
theorem runit_any (a : Int) (w : World) : Calls Try.prog 54 #[.int .i64 a] w fun e w' => e = .returned (.int .i64 (unitS a)) ∧ Below w.heap.size w w' := PNum.imageeditorref01_Unit.calls a _ w (runit_eq a)
theorem size_any (a : Int) (w : World) (ha : I64 a) : Calls Try.prog 61 #[.int .i64 a] w fun e w' => e = .returned (.int .u64 (mag a)) ∧ Drawn0 w w' := PNum.num_size.calls a _ w (size_eq a ha)
theorem abs_any (a : Int) (w : World) (ha : I64 a) : Calls Try.prog 56 #[.int .i64 a] w fun e w' => e = .returned (.int .u64 (mag a)) ∧ Drawn0 w w' := PNum.imageeditorref01_Abs.calls a _ w (abs_eq a ha)
theorem times_any (a b : Int) (w : World) (ha : U64 a) (hb : U64 b) : Calls Try.prog 60 #[.int .u64 a, .int .u64 b] w fun e w' => e = .returned (.tuple #[.int .u64 (a * b / 18446744073709551616), .int .u64 (a * b % 18446744073709551616)]) ∧ Drawn0 w w' := PNum.num_times.calls a b _ _ w (times_eq a b ha hb)
theorem product_any (a b : Int) (w : World) (ha : U64 a) (hb : U64 b) : Calls Try.prog 55 #[.int .u64 a, .int .u64 b] w fun e w' => e = .returned (.tuple #[.int .u64 (a * b / 18446744073709551616), .int .u64 (a * b % 18446744073709551616)]) ∧ Drawn0 w w' := PNum.imageeditorref01_Product.calls a b _ _ w (product_eq a b ha hb)
theorem signed_any (n : Int) (m : Bool) (w : World) (hn : U64 n) : Calls Try.prog 62 #[.int .u64 n, .bool m] w fun e w' => e = .returned (.int .i64 (signedS n m)) ∧ Drawn0 w w' := by
  obtain ⟨k, hk⟩ := signed_eq n hn m; exact PNum.num_signed.calls k n m _ w hk
theorem rsigned_any (hi lo : Int) (m : Bool) (w : World) (h0 : 0 ≤ hi) (hn : U64 lo) : Calls Try.prog 63 #[.int .u64 hi, .int .u64 lo, .bool m] w fun e w' => e = .returned (.int .i64 (signedS (hi * 18446744073709551616 + lo) m)) ∧ Drawn0 w w' := by
  obtain ⟨k, hk⟩ := rsigned_eq hi lo h0 hn m; exact PNum.imageeditorref01_signed.calls k hi lo m _ w hk
theorem sqrt_any (n : Int) (w : World) (hn : I64 n) : Calls Try.prog 48 #[.int .i64 n] w fun e w' => e = .returned (.int .i64 (sqrtS n)) ∧ Drawn0 w w' := by
  obtain ⟨k, hk⟩ := sqrt_eq n hn; exact PNum.num_Sqrt.calls k n _ w hk
theorem rsqrt_any (n : Int) (w : World) (hn : I64 n) : Calls Try.prog 49 #[.int .i64 n] w fun e w' => e = .returned (.int .i64 (sqrtS n)) ∧ Drawn0 w w' := by
  obtain ⟨k, hk⟩ := rsqrt_eq n hn; exact PNum.imageeditorref01_Sqrt.calls k n _ w hk
theorem hypot_any (x y : Int) (w : World) (hx : I64 x) (hy : I64 y) : Calls Try.prog 50 #[.int .i64 x, .int .i64 y] w fun e w' => e = .returned (.int .i64 (hypotS x y)) ∧ Drawn0 w w' := by
  obtain ⟨k, hk⟩ := hypot_eq x y hx hy; exact PNum.num_Hypot.calls k x y _ w hk
theorem rhypot_any (x y : Int) (w : World) (hx : I64 x) (hy : I64 y) : Calls Try.prog 51 #[.int .i64 x, .int .i64 y] w fun e w' => e = .returned (.int .i64 (hypotS x y)) ∧ Drawn0 w w' := by
  obtain ⟨k, hk⟩ := rhypot_eq x y hx hy; exact PNum.imageeditorref01_Hypot.calls k x y _ w hk
theorem quotient_any (hi lo d : Int) (w : World) (h0 : U64 hi) (h1 : U64 lo) (hd0 : 0 < d) (hd : d ≤ 9223372036854775808) : ∃ q1 q0 r, (0 ≤ q1 ∧ U64 q0 ∧ 0 ≤ r ∧ r < d ∧ hi * 18446744073709551616 + lo = d * (q1 * 18446744073709551616 + q0) + r) ∧
    ∀ w, Calls Try.prog 64 #[.int .u64 hi, .int .u64 lo, .int .u64 d] w fun e w' => e = .returned (.tuple #[.int .u64 q1, .int .u64 q0, .int .u64 r]) ∧ Drawn0 w w' := by
  obtain ⟨k, q1, q0, r, hk, h⟩ := quotient_eq hi lo d h0 h1 hd0 hd
  exact ⟨q1, q0, r, h, fun w => PNum.imageeditorref01_Quotient.calls k hi lo d _ _ _ w hk⟩
end Go.Proofs.Yteehnbgkgdhgaaa.Spec
