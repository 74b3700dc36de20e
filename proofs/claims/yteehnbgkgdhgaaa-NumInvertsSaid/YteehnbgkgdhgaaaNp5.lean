/-
  Proved: for all ints a, b and t the law NumInverts returns true: a quotient undoes a product, and a mixture lies between its ends. No conditions. Here: the plain facts and the walk of the law.
-/
import Derived.Test.YteehnbgkgdhgaaaNp1
import Derived.Test.YteehnbgkgdhgaaaNs5
namespace Go.Proofs.Yteehnbgkgdhgaaa.Inv
open Go.RowKit Go.Proofs.Yteehnbgkgdhgaaa.NM Go.Proofs.Yteehnbgkgdhgaaa.Spec Go.Proofs.Yteehnbgkgdhgaaa.Pure Go.Proofs.YteehnbgkgdhgaaaW.PrintWords Go.Proofs.YteehnbgkgdhgaaaW.PrintLast Go.Proofs.YteehnbgkgdhgaaaW.PrintMore
attribute [local go_sem] max2_int min2_int max_two min_two
set_option linter.unusedVariables false

theorem mul_facts (a b : Int) : mulS a b = mulS b a ∧ 0 ≤ mulS a b ∧ mulS a b ≤ unitS a ∧ mulS a b ≤ unitS b ∧ mulS a 65535 = unitS a := by
  have hx := unitS_range a
  have hy := unitS_range b
  have hP := unit_mul _ _ hx hy
  have hc : unitS b * unitS a = unitS a * unitS b := Int.mul_comm _ _
  have h65 : unitS 65535 = 65535 := by decide
  unfold mulS
  rw [hc, h65]
  have p1 : unitS a * unitS b ≤ unitS a * 65535 := Int.mul_le_mul_of_nonneg_left hy.2 hx.1
  have p2 : unitS a * unitS b ≤ 65535 * unitS b := Int.mul_le_mul_of_nonneg_right hx.2 hy.1
  refine ⟨rfl, by omega, by omega, by omega, by omega⟩

theorem quo_facts (a b : Int) (hy0 : 0 < unitS b) : 0 ≤ quoS (mulS a b) b ∧ quoS (mulS a b) b ≤ 65535 ∧
    quoS (mulS a b) b - unitS a ≤ 65535 / (2 * unitS b) + 1 ∧ unitS a - quoS (mulS a b) b ≤ 65535 / (2 * unitS b) + 1 := by
  have hx := unitS_range a
  have hy := unitS_range b
  obtain ⟨_, m0, m1, m2, _⟩ := mul_facts a b
  have hum : unitS (mulS a b) = mulS a b := by unfold unitS at *; omega
  unfold quoS
  rw [if_neg (by omega), hum]
  have hm : 2 * (unitS a * unitS b) - 65534 ≤ 131070 * mulS a b ∧ 131070 * mulS a b ≤ 2 * (unitS a * unitS b) + 65535 := by unfold mulS; omega
  generalize mulS a b = m at *
  generalize unitS a = x at *
  generalize unitS b = y at *
  have k1 := Int.mul_ediv_add_emod 65535 (2 * y)
  have k2 := Int.emod_nonneg 65535 (show 2 * y ≠ 0 by omega)
  have k3 := Int.emod_lt_of_pos 65535 (show 0 < 2 * y by omega)
  have t1 := Int.mul_ediv_add_emod (2 * (m * 65535) + y) (2 * y)
  have t2 := Int.emod_nonneg (2 * (m * 65535) + y) (show 2 * y ≠ 0 by omega)
  have t3 := Int.emod_lt_of_pos (2 * (m * 65535) + y) (show 0 < 2 * y by omega)
  have t4 : 0 ≤ (2 * (m * 65535) + y) / (2 * y) := Int.ediv_nonneg (by omega) (by omega)
  generalize 65535 / (2 * y) = K at *
  generalize 65535 % (2 * y) = K' at *
  generalize (2 * (m * 65535) + y) / (2 * y) = T at *
  generalize (2 * (m * 65535) + y) % (2 * y) = T' at *
  have eK : 2 * y * K = 2 * (y * K) := by grind
  have eT : 2 * y * T = 2 * (y * T) := by grind
  have up : T - x ≤ K + 1 := by
    refine Int.not_lt.mp fun h => ?_
    have : 0 ≤ y * (T - x - K - 2) := Int.mul_nonneg (by omega) (by omega)
    have e : y * (T - x - K - 2) = y * T - x * y - y * K - 2 * y := by grind
    omega
  have dn : x - T ≤ K + 1 := by
    refine Int.not_lt.mp fun h => ?_
    have : 0 ≤ y * (x - T - K - 2) := Int.mul_nonneg (by omega) (by omega)
    have e : y * (x - T - K - 2) = x * y - y * T - y * K - 2 * y := by grind
    omega
  have hK : 0 ≤ y * K ∨ True := .inr trivial
  refine ⟨by omega, by omega, by omega, ?_⟩
  have hK0 : 0 ≤ K ∨ K < 0 := by omega
  rcases hK0 with h | h
  · omega
  · have : y * K ≤ y * (-1) := Int.mul_le_mul_of_nonneg_left (by omega) (by omega)
    omega

theorem lerp_facts (a b t : Int) (ha : -1099511627776 ≤ a ∧ a ≤ 1099511627776) (hb : -1099511627776 ≤ b ∧ b ≤ 1099511627776) :
    lerpS a b 0 = a ∧ lerpS a b 65535 = b ∧ mn a b ≤ lerpS a b t ∧ lerpS a b t ≤ mx a b := by
  have ca : clampS a (-1099511627776) 1099511627776 = a := by unfold clampS; omega
  have cb : clampS b (-1099511627776) 1099511627776 = b := by unfold clampS; omega
  have u0 : unitS 0 = 0 := by decide
  have u1 : unitS 65535 = 65535 := by decide
  have hk := unitS_range t
  unfold lerpS
  rw [ca, cb, u0, u1, mn_min, mx_max]
  generalize unitS t = k at *
  have e1 : a * (65535 - 65535) = 0 := by rw [Int.sub_self, Int.mul_zero]
  have e2 : b * 0 = 0 := Int.mul_zero b
  have l1 : min a b * (65535 - k) ≤ a * (65535 - k) := Int.mul_le_mul_of_nonneg_right (by omega) (by omega)
  have l2 : min a b * k ≤ b * k := Int.mul_le_mul_of_nonneg_right (by omega) (by omega)
  have l3 : min a b * (65535 - k) + min a b * k = min a b * 65535 := by rw [← Int.mul_add]; congr 1; omega
  have g1 : a * (65535 - k) ≤ max a b * (65535 - k) := Int.mul_le_mul_of_nonneg_right (by omega) (by omega)
  have g2 : b * k ≤ max a b * k := Int.mul_le_mul_of_nonneg_right (by omega) (by omega)
  have g3 : max a b * (65535 - k) + max a b * k = max a b * 65535 := by rw [← Int.mul_add]; congr 1; omega
  refine ⟨by omega, by omega, by omega, by omega⟩

theorem example_any (w : World) : Calls Try.prog 37 #[] w fun e w' => e = .returned (.bool true) ∧ Below w.heap.size w w' := PNumA.imageeditorlaw01_example.calls true w example_true

set_option maxHeartbeats 20000000 in
theorem walk (a b t : Int) (w : World) (ha : I64 a) (hb : I64 b) (ht : I64 t) :
    Calls Try.prog 15 #[.int .i64 a, .int .i64 b, .int .i64 t] w fun e w' => e = .returned (.bool true) ∧ Below w.heap.size w w' := by
  have hx := unitS_range a
  have hy := unitS_range b
  obtain ⟨mc, m0, m1, m2, m3⟩ := mul_facts a b
  have c1 := fun w => runit_any a w
  have c2 := fun w => runit_any b w
  have c3 := fun w => mul_any a b w
  have c4 := fun w => mul_any b a w
  have c5 := fun w => mul_any a 65535 w
  have c6 := fun w => quo_any (mulS a b) b w
  have c7 := fun w => lerp_any a b t w
  have c8 := fun w => lerp_any a b 0 w
  have c9 := fun w => lerp_any a b 65535 w
  rw [← mc] at c4
  rw [m3] at c5
  have hq := quo_facts a b
  have hl := lerp_facts a b t
  have hmn : mulS a b ≤ mn (unitS a) (unitS b) := by rw [mn_min]; omega
  generalize mulS a b = m at *
  generalize unitS a = x at *
  generalize unitS b = y at *
  have C1 := Lib.hid c1
  have C2 := Lib.hid c2
  have C3 := Lib.hid c3
  have C4 := Lib.hid c4
  have C5 := Lib.hid c5
  have C6 := Lib.hid c6
  have C7 := Lib.hid c7
  have C8 := Lib.hid c8
  have C9 := Lib.hid c9
  have HQ := Lib.hid hq
  have HL := Lib.hid hl
  clear c1 c2 c3 c4 c5 c6 c7 c8 c9 hq hl mc m3
  obtain ⟨hx0, hx1⟩ := hx
  obtain ⟨hy0, hy1⟩ := hy
  unfold I64 at ha hb
  obtain ⟨ha0, ha1⟩ := ha
  obtain ⟨hb0, hb1⟩ := hb
  have HB := Below.refl w.heap.size w
  have hcase : (a < b ∧ 1099511627776 < b) ∨ (b ≤ a ∧ 1099511627776 < a) ∨ (a < b ∧ b ≤ 1099511627776 ∧ a < -1099511627776) ∨ (b ≤ a ∧ a ≤ 1099511627776 ∧ b < -1099511627776) ∨
      (a < b ∧ b ≤ 1099511627776 ∧ -1099511627776 ≤ a) ∨ (b ≤ a ∧ a ≤ 1099511627776 ∧ -1099511627776 ≤ b) := by omega
  have hq : 0 < y → (0 ≤ quoS m b ∧ quoS m b ≤ 65535 ∧ quoS m b - x ≤ 65535 / (2 * y) + 1 ∧ x - quoS m b ≤ 65535 / (2 * y) + 1) := HQ.out
  have hl : -1099511627776 ≤ a → a ≤ 1099511627776 → -1099511627776 ≤ b → b ≤ 1099511627776 → lerpS a b 0 = a ∧ lerpS a b 65535 = b ∧ mn a b ≤ lerpS a b t ∧ lerpS a b t ≤ mx a b := fun h1 h2 h3 h4 => HL.out ⟨h1, h2⟩ ⟨h3, h4⟩
  clear HQ HL
  rcases (show (0 < y ∧ x < quoS m b) ∨ (0 < y ∧ quoS m b ≤ x) ∨ y ≤ 0 by omega) with ⟨hyp, hqx⟩ | ⟨hyp, hqx⟩ | hyp
  · obtain ⟨q1, q2, q3, q4⟩ := hq hyp
    clear hq
    generalize quoS m b = q at *
    generalize hK : 65535 / (2 * y) = K at *
    have hK0 : 0 ≤ K := by rw [← hK]; exact Int.ediv_nonneg (by omega) (by omega)
    have hK1 : K ≤ 65535 := by rw [← hK]; exact Int.ediv_le_self _ (by omega)
    rcases hcase with ⟨g1, g2⟩ | ⟨g1, g2⟩ | ⟨g1, g2, g3⟩ | ⟨g1, g2, g3⟩ | ⟨g1, g2, g3⟩ | ⟨g1, g2, g3⟩
    · clear hl
      go_enter Try.func15, Try.ntmps15
      go_wp2_with (first | (go_at_call 54; ((with_reducible refine (C1.out _).mono ?_); rintro e w' ⟨rfl, hb'⟩; replace HB := HB.trans (hb'.mono HB.size); clear hb')) | (go_at_call 54; ((with_reducible refine (C2.out _).mono ?_); rintro e w' ⟨rfl, hb'⟩; replace HB := HB.trans (hb'.mono HB.size); clear hb')) | (go_at_call 38; ((with_reducible refine (C3.out _).mono ?_); rintro e w' ⟨rfl, hb'⟩; replace HB := HB.trans (hb'.mono HB.size); clear hb')) | (go_at_call 38; ((with_reducible refine (C4.out _).mono ?_); rintro e w' ⟨rfl, hb'⟩; replace HB := HB.trans (hb'.mono HB.size); clear hb')) | (go_at_call 38; ((with_reducible refine (C5.out _).mono ?_); rintro e w' ⟨rfl, hb'⟩; replace HB := HB.trans (hb'.mono HB.size); clear hb')) | (go_at_call 40; ((with_reducible refine (C6.out _).mono ?_); rintro e w' ⟨rfl, hb'⟩; replace HB := HB.trans (hb'.mono HB.size); clear hb')) | (go_at_call 42; ((with_reducible refine (C7.out _).mono ?_); rintro e w' ⟨rfl, hb'⟩; replace HB := HB.trans (hb'.mono HB.size); clear hb')) | (go_at_call 42; ((with_reducible refine (C8.out _).mono ?_); rintro e w' ⟨rfl, hb'⟩; replace HB := HB.trans (hb'.mono HB.size); clear hb')) | (go_at_call 42; ((with_reducible refine (C9.out _).mono ?_); rintro e w' ⟨rfl, hb'⟩; replace HB := HB.trans (hb'.mono HB.size); clear hb')) | (go_at_call 37; ((with_reducible refine (example_any _).mono ?_); rintro e w' ⟨rfl, hb'⟩; replace HB := HB.trans (hb'.mono HB.size); clear hb')))
      all_goals go_ret
      all_goals exact ⟨rfl, HB⟩
    · clear hl
      go_enter Try.func15, Try.ntmps15
      go_wp2_with (first | (go_at_call 54; ((with_reducible refine (C1.out _).mono ?_); rintro e w' ⟨rfl, hb'⟩; replace HB := HB.trans (hb'.mono HB.size); clear hb')) | (go_at_call 54; ((with_reducible refine (C2.out _).mono ?_); rintro e w' ⟨rfl, hb'⟩; replace HB := HB.trans (hb'.mono HB.size); clear hb')) | (go_at_call 38; ((with_reducible refine (C3.out _).mono ?_); rintro e w' ⟨rfl, hb'⟩; replace HB := HB.trans (hb'.mono HB.size); clear hb')) | (go_at_call 38; ((with_reducible refine (C4.out _).mono ?_); rintro e w' ⟨rfl, hb'⟩; replace HB := HB.trans (hb'.mono HB.size); clear hb')) | (go_at_call 38; ((with_reducible refine (C5.out _).mono ?_); rintro e w' ⟨rfl, hb'⟩; replace HB := HB.trans (hb'.mono HB.size); clear hb')) | (go_at_call 40; ((with_reducible refine (C6.out _).mono ?_); rintro e w' ⟨rfl, hb'⟩; replace HB := HB.trans (hb'.mono HB.size); clear hb')) | (go_at_call 42; ((with_reducible refine (C7.out _).mono ?_); rintro e w' ⟨rfl, hb'⟩; replace HB := HB.trans (hb'.mono HB.size); clear hb')) | (go_at_call 42; ((with_reducible refine (C8.out _).mono ?_); rintro e w' ⟨rfl, hb'⟩; replace HB := HB.trans (hb'.mono HB.size); clear hb')) | (go_at_call 42; ((with_reducible refine (C9.out _).mono ?_); rintro e w' ⟨rfl, hb'⟩; replace HB := HB.trans (hb'.mono HB.size); clear hb')) | (go_at_call 37; ((with_reducible refine (example_any _).mono ?_); rintro e w' ⟨rfl, hb'⟩; replace HB := HB.trans (hb'.mono HB.size); clear hb')))
      all_goals go_ret
      all_goals exact ⟨rfl, HB⟩
    · clear hl
      go_enter Try.func15, Try.ntmps15
      go_wp2_with (first | (go_at_call 54; ((with_reducible refine (C1.out _).mono ?_); rintro e w' ⟨rfl, hb'⟩; replace HB := HB.trans (hb'.mono HB.size); clear hb')) | (go_at_call 54; ((with_reducible refine (C2.out _).mono ?_); rintro e w' ⟨rfl, hb'⟩; replace HB := HB.trans (hb'.mono HB.size); clear hb')) | (go_at_call 38; ((with_reducible refine (C3.out _).mono ?_); rintro e w' ⟨rfl, hb'⟩; replace HB := HB.trans (hb'.mono HB.size); clear hb')) | (go_at_call 38; ((with_reducible refine (C4.out _).mono ?_); rintro e w' ⟨rfl, hb'⟩; replace HB := HB.trans (hb'.mono HB.size); clear hb')) | (go_at_call 38; ((with_reducible refine (C5.out _).mono ?_); rintro e w' ⟨rfl, hb'⟩; replace HB := HB.trans (hb'.mono HB.size); clear hb')) | (go_at_call 40; ((with_reducible refine (C6.out _).mono ?_); rintro e w' ⟨rfl, hb'⟩; replace HB := HB.trans (hb'.mono HB.size); clear hb')) | (go_at_call 42; ((with_reducible refine (C7.out _).mono ?_); rintro e w' ⟨rfl, hb'⟩; replace HB := HB.trans (hb'.mono HB.size); clear hb')) | (go_at_call 42; ((with_reducible refine (C8.out _).mono ?_); rintro e w' ⟨rfl, hb'⟩; replace HB := HB.trans (hb'.mono HB.size); clear hb')) | (go_at_call 42; ((with_reducible refine (C9.out _).mono ?_); rintro e w' ⟨rfl, hb'⟩; replace HB := HB.trans (hb'.mono HB.size); clear hb')) | (go_at_call 37; ((with_reducible refine (example_any _).mono ?_); rintro e w' ⟨rfl, hb'⟩; replace HB := HB.trans (hb'.mono HB.size); clear hb')))
      all_goals go_ret
      all_goals exact ⟨rfl, HB⟩
    · clear hl
      go_enter Try.func15, Try.ntmps15
      go_wp2_with (first | (go_at_call 54; ((with_reducible refine (C1.out _).mono ?_); rintro e w' ⟨rfl, hb'⟩; replace HB := HB.trans (hb'.mono HB.size); clear hb')) | (go_at_call 54; ((with_reducible refine (C2.out _).mono ?_); rintro e w' ⟨rfl, hb'⟩; replace HB := HB.trans (hb'.mono HB.size); clear hb')) | (go_at_call 38; ((with_reducible refine (C3.out _).mono ?_); rintro e w' ⟨rfl, hb'⟩; replace HB := HB.trans (hb'.mono HB.size); clear hb')) | (go_at_call 38; ((with_reducible refine (C4.out _).mono ?_); rintro e w' ⟨rfl, hb'⟩; replace HB := HB.trans (hb'.mono HB.size); clear hb')) | (go_at_call 38; ((with_reducible refine (C5.out _).mono ?_); rintro e w' ⟨rfl, hb'⟩; replace HB := HB.trans (hb'.mono HB.size); clear hb')) | (go_at_call 40; ((with_reducible refine (C6.out _).mono ?_); rintro e w' ⟨rfl, hb'⟩; replace HB := HB.trans (hb'.mono HB.size); clear hb')) | (go_at_call 42; ((with_reducible refine (C7.out _).mono ?_); rintro e w' ⟨rfl, hb'⟩; replace HB := HB.trans (hb'.mono HB.size); clear hb')) | (go_at_call 42; ((with_reducible refine (C8.out _).mono ?_); rintro e w' ⟨rfl, hb'⟩; replace HB := HB.trans (hb'.mono HB.size); clear hb')) | (go_at_call 42; ((with_reducible refine (C9.out _).mono ?_); rintro e w' ⟨rfl, hb'⟩; replace HB := HB.trans (hb'.mono HB.size); clear hb')) | (go_at_call 37; ((with_reducible refine (example_any _).mono ?_); rintro e w' ⟨rfl, hb'⟩; replace HB := HB.trans (hb'.mono HB.size); clear hb')))
      all_goals go_ret
      all_goals exact ⟨rfl, HB⟩
    · obtain ⟨l1, l2, l3, l4⟩ := hl (by omega) (by omega) (by omega) (by omega)
      have l5 : a ≤ lerpS a b t := by rw [mn_min] at l3; omega
      have l6 : lerpS a b t ≤ b := by rw [mx_max] at l4; omega
      have c8 := C8.out
      have c9 := C9.out
      rw [l1] at c8
      rw [l2] at c9
      have D8 := Lib.hid c8
      have D9 := Lib.hid c9
      clear hl l1 l2 l3 l4 C8 C9 c8 c9
      generalize lerpS a b t = l at *
      go_enter Try.func15, Try.ntmps15
      go_wp2_with (first | (go_at_call 54; ((with_reducible refine (C1.out _).mono ?_); rintro e w' ⟨rfl, hb'⟩; replace HB := HB.trans (hb'.mono HB.size); clear hb')) | (go_at_call 54; ((with_reducible refine (C2.out _).mono ?_); rintro e w' ⟨rfl, hb'⟩; replace HB := HB.trans (hb'.mono HB.size); clear hb')) | (go_at_call 38; ((with_reducible refine (C3.out _).mono ?_); rintro e w' ⟨rfl, hb'⟩; replace HB := HB.trans (hb'.mono HB.size); clear hb')) | (go_at_call 38; ((with_reducible refine (C4.out _).mono ?_); rintro e w' ⟨rfl, hb'⟩; replace HB := HB.trans (hb'.mono HB.size); clear hb')) | (go_at_call 38; ((with_reducible refine (C5.out _).mono ?_); rintro e w' ⟨rfl, hb'⟩; replace HB := HB.trans (hb'.mono HB.size); clear hb')) | (go_at_call 40; ((with_reducible refine (C6.out _).mono ?_); rintro e w' ⟨rfl, hb'⟩; replace HB := HB.trans (hb'.mono HB.size); clear hb')) | (go_at_call 42; ((with_reducible refine (C7.out _).mono ?_); rintro e w' ⟨rfl, hb'⟩; replace HB := HB.trans (hb'.mono HB.size); clear hb')) | (go_at_call 42; ((with_reducible refine (D8.out _).mono ?_); rintro e w' ⟨rfl, hb'⟩; replace HB := HB.trans (hb'.mono HB.size); clear hb')) | (go_at_call 42; ((with_reducible refine (D9.out _).mono ?_); rintro e w' ⟨rfl, hb'⟩; replace HB := HB.trans (hb'.mono HB.size); clear hb')) | (go_at_call 37; ((with_reducible refine (example_any _).mono ?_); rintro e w' ⟨rfl, hb'⟩; replace HB := HB.trans (hb'.mono HB.size); clear hb')))
      all_goals go_ret
      all_goals exact ⟨rfl, HB⟩
    · obtain ⟨l1, l2, l3, l4⟩ := hl (by omega) (by omega) (by omega) (by omega)
      have l5 : b ≤ lerpS a b t := by rw [mn_min] at l3; omega
      have l6 : lerpS a b t ≤ a := by rw [mx_max] at l4; omega
      have c8 := C8.out
      have c9 := C9.out
      rw [l1] at c8
      rw [l2] at c9
      have D8 := Lib.hid c8
      have D9 := Lib.hid c9
      clear hl l1 l2 l3 l4 C8 C9 c8 c9
      generalize lerpS a b t = l at *
      go_enter Try.func15, Try.ntmps15
      go_wp2_with (first | (go_at_call 54; ((with_reducible refine (C1.out _).mono ?_); rintro e w' ⟨rfl, hb'⟩; replace HB := HB.trans (hb'.mono HB.size); clear hb')) | (go_at_call 54; ((with_reducible refine (C2.out _).mono ?_); rintro e w' ⟨rfl, hb'⟩; replace HB := HB.trans (hb'.mono HB.size); clear hb')) | (go_at_call 38; ((with_reducible refine (C3.out _).mono ?_); rintro e w' ⟨rfl, hb'⟩; replace HB := HB.trans (hb'.mono HB.size); clear hb')) | (go_at_call 38; ((with_reducible refine (C4.out _).mono ?_); rintro e w' ⟨rfl, hb'⟩; replace HB := HB.trans (hb'.mono HB.size); clear hb')) | (go_at_call 38; ((with_reducible refine (C5.out _).mono ?_); rintro e w' ⟨rfl, hb'⟩; replace HB := HB.trans (hb'.mono HB.size); clear hb')) | (go_at_call 40; ((with_reducible refine (C6.out _).mono ?_); rintro e w' ⟨rfl, hb'⟩; replace HB := HB.trans (hb'.mono HB.size); clear hb')) | (go_at_call 42; ((with_reducible refine (C7.out _).mono ?_); rintro e w' ⟨rfl, hb'⟩; replace HB := HB.trans (hb'.mono HB.size); clear hb')) | (go_at_call 42; ((with_reducible refine (D8.out _).mono ?_); rintro e w' ⟨rfl, hb'⟩; replace HB := HB.trans (hb'.mono HB.size); clear hb')) | (go_at_call 42; ((with_reducible refine (D9.out _).mono ?_); rintro e w' ⟨rfl, hb'⟩; replace HB := HB.trans (hb'.mono HB.size); clear hb')) | (go_at_call 37; ((with_reducible refine (example_any _).mono ?_); rintro e w' ⟨rfl, hb'⟩; replace HB := HB.trans (hb'.mono HB.size); clear hb')))
      all_goals go_ret
      all_goals exact ⟨rfl, HB⟩
  · obtain ⟨q1, q2, q3, q4⟩ := hq hyp
    clear hq
    generalize quoS m b = q at *
    generalize hK : 65535 / (2 * y) = K at *
    have hK0 : 0 ≤ K := by rw [← hK]; exact Int.ediv_nonneg (by omega) (by omega)
    have hK1 : K ≤ 65535 := by rw [← hK]; exact Int.ediv_le_self _ (by omega)
    rcases hcase with ⟨g1, g2⟩ | ⟨g1, g2⟩ | ⟨g1, g2, g3⟩ | ⟨g1, g2, g3⟩ | ⟨g1, g2, g3⟩ | ⟨g1, g2, g3⟩
    · clear hl
      go_enter Try.func15, Try.ntmps15
      go_wp2_with (first | (go_at_call 54; ((with_reducible refine (C1.out _).mono ?_); rintro e w' ⟨rfl, hb'⟩; replace HB := HB.trans (hb'.mono HB.size); clear hb')) | (go_at_call 54; ((with_reducible refine (C2.out _).mono ?_); rintro e w' ⟨rfl, hb'⟩; replace HB := HB.trans (hb'.mono HB.size); clear hb')) | (go_at_call 38; ((with_reducible refine (C3.out _).mono ?_); rintro e w' ⟨rfl, hb'⟩; replace HB := HB.trans (hb'.mono HB.size); clear hb')) | (go_at_call 38; ((with_reducible refine (C4.out _).mono ?_); rintro e w' ⟨rfl, hb'⟩; replace HB := HB.trans (hb'.mono HB.size); clear hb')) | (go_at_call 38; ((with_reducible refine (C5.out _).mono ?_); rintro e w' ⟨rfl, hb'⟩; replace HB := HB.trans (hb'.mono HB.size); clear hb')) | (go_at_call 40; ((with_reducible refine (C6.out _).mono ?_); rintro e w' ⟨rfl, hb'⟩; replace HB := HB.trans (hb'.mono HB.size); clear hb')) | (go_at_call 42; ((with_reducible refine (C7.out _).mono ?_); rintro e w' ⟨rfl, hb'⟩; replace HB := HB.trans (hb'.mono HB.size); clear hb')) | (go_at_call 42; ((with_reducible refine (C8.out _).mono ?_); rintro e w' ⟨rfl, hb'⟩; replace HB := HB.trans (hb'.mono HB.size); clear hb')) | (go_at_call 42; ((with_reducible refine (C9.out _).mono ?_); rintro e w' ⟨rfl, hb'⟩; replace HB := HB.trans (hb'.mono HB.size); clear hb')) | (go_at_call 37; ((with_reducible refine (example_any _).mono ?_); rintro e w' ⟨rfl, hb'⟩; replace HB := HB.trans (hb'.mono HB.size); clear hb')))
      all_goals go_ret
      all_goals exact ⟨rfl, HB⟩
    · clear hl
      go_enter Try.func15, Try.ntmps15
      go_wp2_with (first | (go_at_call 54; ((with_reducible refine (C1.out _).mono ?_); rintro e w' ⟨rfl, hb'⟩; replace HB := HB.trans (hb'.mono HB.size); clear hb')) | (go_at_call 54; ((with_reducible refine (C2.out _).mono ?_); rintro e w' ⟨rfl, hb'⟩; replace HB := HB.trans (hb'.mono HB.size); clear hb')) | (go_at_call 38; ((with_reducible refine (C3.out _).mono ?_); rintro e w' ⟨rfl, hb'⟩; replace HB := HB.trans (hb'.mono HB.size); clear hb')) | (go_at_call 38; ((with_reducible refine (C4.out _).mono ?_); rintro e w' ⟨rfl, hb'⟩; replace HB := HB.trans (hb'.mono HB.size); clear hb')) | (go_at_call 38; ((with_reducible refine (C5.out _).mono ?_); rintro e w' ⟨rfl, hb'⟩; replace HB := HB.trans (hb'.mono HB.size); clear hb')) | (go_at_call 40; ((with_reducible refine (C6.out _).mono ?_); rintro e w' ⟨rfl, hb'⟩; replace HB := HB.trans (hb'.mono HB.size); clear hb')) | (go_at_call 42; ((with_reducible refine (C7.out _).mono ?_); rintro e w' ⟨rfl, hb'⟩; replace HB := HB.trans (hb'.mono HB.size); clear hb')) | (go_at_call 42; ((with_reducible refine (C8.out _).mono ?_); rintro e w' ⟨rfl, hb'⟩; replace HB := HB.trans (hb'.mono HB.size); clear hb')) | (go_at_call 42; ((with_reducible refine (C9.out _).mono ?_); rintro e w' ⟨rfl, hb'⟩; replace HB := HB.trans (hb'.mono HB.size); clear hb')) | (go_at_call 37; ((with_reducible refine (example_any _).mono ?_); rintro e w' ⟨rfl, hb'⟩; replace HB := HB.trans (hb'.mono HB.size); clear hb')))
      all_goals go_ret
      all_goals exact ⟨rfl, HB⟩
    · clear hl
      go_enter Try.func15, Try.ntmps15
      go_wp2_with (first | (go_at_call 54; ((with_reducible refine (C1.out _).mono ?_); rintro e w' ⟨rfl, hb'⟩; replace HB := HB.trans (hb'.mono HB.size); clear hb')) | (go_at_call 54; ((with_reducible refine (C2.out _).mono ?_); rintro e w' ⟨rfl, hb'⟩; replace HB := HB.trans (hb'.mono HB.size); clear hb')) | (go_at_call 38; ((with_reducible refine (C3.out _).mono ?_); rintro e w' ⟨rfl, hb'⟩; replace HB := HB.trans (hb'.mono HB.size); clear hb')) | (go_at_call 38; ((with_reducible refine (C4.out _).mono ?_); rintro e w' ⟨rfl, hb'⟩; replace HB := HB.trans (hb'.mono HB.size); clear hb')) | (go_at_call 38; ((with_reducible refine (C5.out _).mono ?_); rintro e w' ⟨rfl, hb'⟩; replace HB := HB.trans (hb'.mono HB.size); clear hb')) | (go_at_call 40; ((with_reducible refine (C6.out _).mono ?_); rintro e w' ⟨rfl, hb'⟩; replace HB := HB.trans (hb'.mono HB.size); clear hb')) | (go_at_call 42; ((with_reducible refine (C7.out _).mono ?_); rintro e w' ⟨rfl, hb'⟩; replace HB := HB.trans (hb'.mono HB.size); clear hb')) | (go_at_call 42; ((with_reducible refine (C8.out _).mono ?_); rintro e w' ⟨rfl, hb'⟩; replace HB := HB.trans (hb'.mono HB.size); clear hb')) | (go_at_call 42; ((with_reducible refine (C9.out _).mono ?_); rintro e w' ⟨rfl, hb'⟩; replace HB := HB.trans (hb'.mono HB.size); clear hb')) | (go_at_call 37; ((with_reducible refine (example_any _).mono ?_); rintro e w' ⟨rfl, hb'⟩; replace HB := HB.trans (hb'.mono HB.size); clear hb')))
      all_goals go_ret
      all_goals exact ⟨rfl, HB⟩
    · clear hl
      go_enter Try.func15, Try.ntmps15
      go_wp2_with (first | (go_at_call 54; ((with_reducible refine (C1.out _).mono ?_); rintro e w' ⟨rfl, hb'⟩; replace HB := HB.trans (hb'.mono HB.size); clear hb')) | (go_at_call 54; ((with_reducible refine (C2.out _).mono ?_); rintro e w' ⟨rfl, hb'⟩; replace HB := HB.trans (hb'.mono HB.size); clear hb')) | (go_at_call 38; ((with_reducible refine (C3.out _).mono ?_); rintro e w' ⟨rfl, hb'⟩; replace HB := HB.trans (hb'.mono HB.size); clear hb')) | (go_at_call 38; ((with_reducible refine (C4.out _).mono ?_); rintro e w' ⟨rfl, hb'⟩; replace HB := HB.trans (hb'.mono HB.size); clear hb')) | (go_at_call 38; ((with_reducible refine (C5.out _).mono ?_); rintro e w' ⟨rfl, hb'⟩; replace HB := HB.trans (hb'.mono HB.size); clear hb')) | (go_at_call 40; ((with_reducible refine (C6.out _).mono ?_); rintro e w' ⟨rfl, hb'⟩; replace HB := HB.trans (hb'.mono HB.size); clear hb')) | (go_at_call 42; ((with_reducible refine (C7.out _).mono ?_); rintro e w' ⟨rfl, hb'⟩; replace HB := HB.trans (hb'.mono HB.size); clear hb')) | (go_at_call 42; ((with_reducible refine (C8.out _).mono ?_); rintro e w' ⟨rfl, hb'⟩; replace HB := HB.trans (hb'.mono HB.size); clear hb')) | (go_at_call 42; ((with_reducible refine (C9.out _).mono ?_); rintro e w' ⟨rfl, hb'⟩; replace HB := HB.trans (hb'.mono HB.size); clear hb')) | (go_at_call 37; ((with_reducible refine (example_any _).mono ?_); rintro e w' ⟨rfl, hb'⟩; replace HB := HB.trans (hb'.mono HB.size); clear hb')))
      all_goals go_ret
      all_goals exact ⟨rfl, HB⟩
    · obtain ⟨l1, l2, l3, l4⟩ := hl (by omega) (by omega) (by omega) (by omega)
      have l5 : a ≤ lerpS a b t := by rw [mn_min] at l3; omega
      have l6 : lerpS a b t ≤ b := by rw [mx_max] at l4; omega
      have c8 := C8.out
      have c9 := C9.out
      rw [l1] at c8
      rw [l2] at c9
      have D8 := Lib.hid c8
      have D9 := Lib.hid c9
      clear hl l1 l2 l3 l4 C8 C9 c8 c9
      generalize lerpS a b t = l at *
      go_enter Try.func15, Try.ntmps15
      go_wp2_with (first | (go_at_call 54; ((with_reducible refine (C1.out _).mono ?_); rintro e w' ⟨rfl, hb'⟩; replace HB := HB.trans (hb'.mono HB.size); clear hb')) | (go_at_call 54; ((with_reducible refine (C2.out _).mono ?_); rintro e w' ⟨rfl, hb'⟩; replace HB := HB.trans (hb'.mono HB.size); clear hb')) | (go_at_call 38; ((with_reducible refine (C3.out _).mono ?_); rintro e w' ⟨rfl, hb'⟩; replace HB := HB.trans (hb'.mono HB.size); clear hb')) | (go_at_call 38; ((with_reducible refine (C4.out _).mono ?_); rintro e w' ⟨rfl, hb'⟩; replace HB := HB.trans (hb'.mono HB.size); clear hb')) | (go_at_call 38; ((with_reducible refine (C5.out _).mono ?_); rintro e w' ⟨rfl, hb'⟩; replace HB := HB.trans (hb'.mono HB.size); clear hb')) | (go_at_call 40; ((with_reducible refine (C6.out _).mono ?_); rintro e w' ⟨rfl, hb'⟩; replace HB := HB.trans (hb'.mono HB.size); clear hb')) | (go_at_call 42; ((with_reducible refine (C7.out _).mono ?_); rintro e w' ⟨rfl, hb'⟩; replace HB := HB.trans (hb'.mono HB.size); clear hb')) | (go_at_call 42; ((with_reducible refine (D8.out _).mono ?_); rintro e w' ⟨rfl, hb'⟩; replace HB := HB.trans (hb'.mono HB.size); clear hb')) | (go_at_call 42; ((with_reducible refine (D9.out _).mono ?_); rintro e w' ⟨rfl, hb'⟩; replace HB := HB.trans (hb'.mono HB.size); clear hb')) | (go_at_call 37; ((with_reducible refine (example_any _).mono ?_); rintro e w' ⟨rfl, hb'⟩; replace HB := HB.trans (hb'.mono HB.size); clear hb')))
      all_goals go_ret
      all_goals exact ⟨rfl, HB⟩
    · obtain ⟨l1, l2, l3, l4⟩ := hl (by omega) (by omega) (by omega) (by omega)
      have l5 : b ≤ lerpS a b t := by rw [mn_min] at l3; omega
      have l6 : lerpS a b t ≤ a := by rw [mx_max] at l4; omega
      have c8 := C8.out
      have c9 := C9.out
      rw [l1] at c8
      rw [l2] at c9
      have D8 := Lib.hid c8
      have D9 := Lib.hid c9
      clear hl l1 l2 l3 l4 C8 C9 c8 c9
      generalize lerpS a b t = l at *
      go_enter Try.func15, Try.ntmps15
      go_wp2_with (first | (go_at_call 54; ((with_reducible refine (C1.out _).mono ?_); rintro e w' ⟨rfl, hb'⟩; replace HB := HB.trans (hb'.mono HB.size); clear hb')) | (go_at_call 54; ((with_reducible refine (C2.out _).mono ?_); rintro e w' ⟨rfl, hb'⟩; replace HB := HB.trans (hb'.mono HB.size); clear hb')) | (go_at_call 38; ((with_reducible refine (C3.out _).mono ?_); rintro e w' ⟨rfl, hb'⟩; replace HB := HB.trans (hb'.mono HB.size); clear hb')) | (go_at_call 38; ((with_reducible refine (C4.out _).mono ?_); rintro e w' ⟨rfl, hb'⟩; replace HB := HB.trans (hb'.mono HB.size); clear hb')) | (go_at_call 38; ((with_reducible refine (C5.out _).mono ?_); rintro e w' ⟨rfl, hb'⟩; replace HB := HB.trans (hb'.mono HB.size); clear hb')) | (go_at_call 40; ((with_reducible refine (C6.out _).mono ?_); rintro e w' ⟨rfl, hb'⟩; replace HB := HB.trans (hb'.mono HB.size); clear hb')) | (go_at_call 42; ((with_reducible refine (C7.out _).mono ?_); rintro e w' ⟨rfl, hb'⟩; replace HB := HB.trans (hb'.mono HB.size); clear hb')) | (go_at_call 42; ((with_reducible refine (D8.out _).mono ?_); rintro e w' ⟨rfl, hb'⟩; replace HB := HB.trans (hb'.mono HB.size); clear hb')) | (go_at_call 42; ((with_reducible refine (D9.out _).mono ?_); rintro e w' ⟨rfl, hb'⟩; replace HB := HB.trans (hb'.mono HB.size); clear hb')) | (go_at_call 37; ((with_reducible refine (example_any _).mono ?_); rintro e w' ⟨rfl, hb'⟩; replace HB := HB.trans (hb'.mono HB.size); clear hb')))
      all_goals go_ret
      all_goals exact ⟨rfl, HB⟩
  · clear hq
    rcases hcase with ⟨g1, g2⟩ | ⟨g1, g2⟩ | ⟨g1, g2, g3⟩ | ⟨g1, g2, g3⟩ | ⟨g1, g2, g3⟩ | ⟨g1, g2, g3⟩
    · clear hl
      go_enter Try.func15, Try.ntmps15
      go_wp2_with (first | (go_at_call 54; ((with_reducible refine (C1.out _).mono ?_); rintro e w' ⟨rfl, hb'⟩; replace HB := HB.trans (hb'.mono HB.size); clear hb')) | (go_at_call 54; ((with_reducible refine (C2.out _).mono ?_); rintro e w' ⟨rfl, hb'⟩; replace HB := HB.trans (hb'.mono HB.size); clear hb')) | (go_at_call 38; ((with_reducible refine (C3.out _).mono ?_); rintro e w' ⟨rfl, hb'⟩; replace HB := HB.trans (hb'.mono HB.size); clear hb')) | (go_at_call 38; ((with_reducible refine (C4.out _).mono ?_); rintro e w' ⟨rfl, hb'⟩; replace HB := HB.trans (hb'.mono HB.size); clear hb')) | (go_at_call 38; ((with_reducible refine (C5.out _).mono ?_); rintro e w' ⟨rfl, hb'⟩; replace HB := HB.trans (hb'.mono HB.size); clear hb')) | (go_at_call 40; ((with_reducible refine (C6.out _).mono ?_); rintro e w' ⟨rfl, hb'⟩; replace HB := HB.trans (hb'.mono HB.size); clear hb')) | (go_at_call 42; ((with_reducible refine (C7.out _).mono ?_); rintro e w' ⟨rfl, hb'⟩; replace HB := HB.trans (hb'.mono HB.size); clear hb')) | (go_at_call 42; ((with_reducible refine (C8.out _).mono ?_); rintro e w' ⟨rfl, hb'⟩; replace HB := HB.trans (hb'.mono HB.size); clear hb')) | (go_at_call 42; ((with_reducible refine (C9.out _).mono ?_); rintro e w' ⟨rfl, hb'⟩; replace HB := HB.trans (hb'.mono HB.size); clear hb')) | (go_at_call 37; ((with_reducible refine (example_any _).mono ?_); rintro e w' ⟨rfl, hb'⟩; replace HB := HB.trans (hb'.mono HB.size); clear hb')))
      all_goals go_ret
      all_goals exact ⟨rfl, HB⟩
    · clear hl
      go_enter Try.func15, Try.ntmps15
      go_wp2_with (first | (go_at_call 54; ((with_reducible refine (C1.out _).mono ?_); rintro e w' ⟨rfl, hb'⟩; replace HB := HB.trans (hb'.mono HB.size); clear hb')) | (go_at_call 54; ((with_reducible refine (C2.out _).mono ?_); rintro e w' ⟨rfl, hb'⟩; replace HB := HB.trans (hb'.mono HB.size); clear hb')) | (go_at_call 38; ((with_reducible refine (C3.out _).mono ?_); rintro e w' ⟨rfl, hb'⟩; replace HB := HB.trans (hb'.mono HB.size); clear hb')) | (go_at_call 38; ((with_reducible refine (C4.out _).mono ?_); rintro e w' ⟨rfl, hb'⟩; replace HB := HB.trans (hb'.mono HB.size); clear hb')) | (go_at_call 38; ((with_reducible refine (C5.out _).mono ?_); rintro e w' ⟨rfl, hb'⟩; replace HB := HB.trans (hb'.mono HB.size); clear hb')) | (go_at_call 40; ((with_reducible refine (C6.out _).mono ?_); rintro e w' ⟨rfl, hb'⟩; replace HB := HB.trans (hb'.mono HB.size); clear hb')) | (go_at_call 42; ((with_reducible refine (C7.out _).mono ?_); rintro e w' ⟨rfl, hb'⟩; replace HB := HB.trans (hb'.mono HB.size); clear hb')) | (go_at_call 42; ((with_reducible refine (C8.out _).mono ?_); rintro e w' ⟨rfl, hb'⟩; replace HB := HB.trans (hb'.mono HB.size); clear hb')) | (go_at_call 42; ((with_reducible refine (C9.out _).mono ?_); rintro e w' ⟨rfl, hb'⟩; replace HB := HB.trans (hb'.mono HB.size); clear hb')) | (go_at_call 37; ((with_reducible refine (example_any _).mono ?_); rintro e w' ⟨rfl, hb'⟩; replace HB := HB.trans (hb'.mono HB.size); clear hb')))
      all_goals go_ret
      all_goals exact ⟨rfl, HB⟩
    · clear hl
      go_enter Try.func15, Try.ntmps15
      go_wp2_with (first | (go_at_call 54; ((with_reducible refine (C1.out _).mono ?_); rintro e w' ⟨rfl, hb'⟩; replace HB := HB.trans (hb'.mono HB.size); clear hb')) | (go_at_call 54; ((with_reducible refine (C2.out _).mono ?_); rintro e w' ⟨rfl, hb'⟩; replace HB := HB.trans (hb'.mono HB.size); clear hb')) | (go_at_call 38; ((with_reducible refine (C3.out _).mono ?_); rintro e w' ⟨rfl, hb'⟩; replace HB := HB.trans (hb'.mono HB.size); clear hb')) | (go_at_call 38; ((with_reducible refine (C4.out _).mono ?_); rintro e w' ⟨rfl, hb'⟩; replace HB := HB.trans (hb'.mono HB.size); clear hb')) | (go_at_call 38; ((with_reducible refine (C5.out _).mono ?_); rintro e w' ⟨rfl, hb'⟩; replace HB := HB.trans (hb'.mono HB.size); clear hb')) | (go_at_call 40; ((with_reducible refine (C6.out _).mono ?_); rintro e w' ⟨rfl, hb'⟩; replace HB := HB.trans (hb'.mono HB.size); clear hb')) | (go_at_call 42; ((with_reducible refine (C7.out _).mono ?_); rintro e w' ⟨rfl, hb'⟩; replace HB := HB.trans (hb'.mono HB.size); clear hb')) | (go_at_call 42; ((with_reducible refine (C8.out _).mono ?_); rintro e w' ⟨rfl, hb'⟩; replace HB := HB.trans (hb'.mono HB.size); clear hb')) | (go_at_call 42; ((with_reducible refine (C9.out _).mono ?_); rintro e w' ⟨rfl, hb'⟩; replace HB := HB.trans (hb'.mono HB.size); clear hb')) | (go_at_call 37; ((with_reducible refine (example_any _).mono ?_); rintro e w' ⟨rfl, hb'⟩; replace HB := HB.trans (hb'.mono HB.size); clear hb')))
      all_goals go_ret
      all_goals exact ⟨rfl, HB⟩
    · clear hl
      go_enter Try.func15, Try.ntmps15
      go_wp2_with (first | (go_at_call 54; ((with_reducible refine (C1.out _).mono ?_); rintro e w' ⟨rfl, hb'⟩; replace HB := HB.trans (hb'.mono HB.size); clear hb')) | (go_at_call 54; ((with_reducible refine (C2.out _).mono ?_); rintro e w' ⟨rfl, hb'⟩; replace HB := HB.trans (hb'.mono HB.size); clear hb')) | (go_at_call 38; ((with_reducible refine (C3.out _).mono ?_); rintro e w' ⟨rfl, hb'⟩; replace HB := HB.trans (hb'.mono HB.size); clear hb')) | (go_at_call 38; ((with_reducible refine (C4.out _).mono ?_); rintro e w' ⟨rfl, hb'⟩; replace HB := HB.trans (hb'.mono HB.size); clear hb')) | (go_at_call 38; ((with_reducible refine (C5.out _).mono ?_); rintro e w' ⟨rfl, hb'⟩; replace HB := HB.trans (hb'.mono HB.size); clear hb')) | (go_at_call 40; ((with_reducible refine (C6.out _).mono ?_); rintro e w' ⟨rfl, hb'⟩; replace HB := HB.trans (hb'.mono HB.size); clear hb')) | (go_at_call 42; ((with_reducible refine (C7.out _).mono ?_); rintro e w' ⟨rfl, hb'⟩; replace HB := HB.trans (hb'.mono HB.size); clear hb')) | (go_at_call 42; ((with_reducible refine (C8.out _).mono ?_); rintro e w' ⟨rfl, hb'⟩; replace HB := HB.trans (hb'.mono HB.size); clear hb')) | (go_at_call 42; ((with_reducible refine (C9.out _).mono ?_); rintro e w' ⟨rfl, hb'⟩; replace HB := HB.trans (hb'.mono HB.size); clear hb')) | (go_at_call 37; ((with_reducible refine (example_any _).mono ?_); rintro e w' ⟨rfl, hb'⟩; replace HB := HB.trans (hb'.mono HB.size); clear hb')))
      all_goals go_ret
      all_goals exact ⟨rfl, HB⟩
    · obtain ⟨l1, l2, l3, l4⟩ := hl (by omega) (by omega) (by omega) (by omega)
      have l5 : a ≤ lerpS a b t := by rw [mn_min] at l3; omega
      have l6 : lerpS a b t ≤ b := by rw [mx_max] at l4; omega
      have c8 := C8.out
      have c9 := C9.out
      rw [l1] at c8
      rw [l2] at c9
      have D8 := Lib.hid c8
      have D9 := Lib.hid c9
      clear hl l1 l2 l3 l4 C8 C9 c8 c9
      generalize lerpS a b t = l at *
      go_enter Try.func15, Try.ntmps15
      go_wp2_with (first | (go_at_call 54; ((with_reducible refine (C1.out _).mono ?_); rintro e w' ⟨rfl, hb'⟩; replace HB := HB.trans (hb'.mono HB.size); clear hb')) | (go_at_call 54; ((with_reducible refine (C2.out _).mono ?_); rintro e w' ⟨rfl, hb'⟩; replace HB := HB.trans (hb'.mono HB.size); clear hb')) | (go_at_call 38; ((with_reducible refine (C3.out _).mono ?_); rintro e w' ⟨rfl, hb'⟩; replace HB := HB.trans (hb'.mono HB.size); clear hb')) | (go_at_call 38; ((with_reducible refine (C4.out _).mono ?_); rintro e w' ⟨rfl, hb'⟩; replace HB := HB.trans (hb'.mono HB.size); clear hb')) | (go_at_call 38; ((with_reducible refine (C5.out _).mono ?_); rintro e w' ⟨rfl, hb'⟩; replace HB := HB.trans (hb'.mono HB.size); clear hb')) | (go_at_call 40; ((with_reducible refine (C6.out _).mono ?_); rintro e w' ⟨rfl, hb'⟩; replace HB := HB.trans (hb'.mono HB.size); clear hb')) | (go_at_call 42; ((with_reducible refine (C7.out _).mono ?_); rintro e w' ⟨rfl, hb'⟩; replace HB := HB.trans (hb'.mono HB.size); clear hb')) | (go_at_call 42; ((with_reducible refine (D8.out _).mono ?_); rintro e w' ⟨rfl, hb'⟩; replace HB := HB.trans (hb'.mono HB.size); clear hb')) | (go_at_call 42; ((with_reducible refine (D9.out _).mono ?_); rintro e w' ⟨rfl, hb'⟩; replace HB := HB.trans (hb'.mono HB.size); clear hb')) | (go_at_call 37; ((with_reducible refine (example_any _).mono ?_); rintro e w' ⟨rfl, hb'⟩; replace HB := HB.trans (hb'.mono HB.size); clear hb')))
      all_goals go_ret
      all_goals exact ⟨rfl, HB⟩
    · obtain ⟨l1, l2, l3, l4⟩ := hl (by omega) (by omega) (by omega) (by omega)
      have l5 : b ≤ lerpS a b t := by rw [mn_min] at l3; omega
      have l6 : lerpS a b t ≤ a := by rw [mx_max] at l4; omega
      have c8 := C8.out
      have c9 := C9.out
      rw [l1] at c8
      rw [l2] at c9
      have D8 := Lib.hid c8
      have D9 := Lib.hid c9
      clear hl l1 l2 l3 l4 C8 C9 c8 c9
      generalize lerpS a b t = l at *
      go_enter Try.func15, Try.ntmps15
      go_wp2_with (first | (go_at_call 54; ((with_reducible refine (C1.out _).mono ?_); rintro e w' ⟨rfl, hb'⟩; replace HB := HB.trans (hb'.mono HB.size); clear hb')) | (go_at_call 54; ((with_reducible refine (C2.out _).mono ?_); rintro e w' ⟨rfl, hb'⟩; replace HB := HB.trans (hb'.mono HB.size); clear hb')) | (go_at_call 38; ((with_reducible refine (C3.out _).mono ?_); rintro e w' ⟨rfl, hb'⟩; replace HB := HB.trans (hb'.mono HB.size); clear hb')) | (go_at_call 38; ((with_reducible refine (C4.out _).mono ?_); rintro e w' ⟨rfl, hb'⟩; replace HB := HB.trans (hb'.mono HB.size); clear hb')) | (go_at_call 38; ((with_reducible refine (C5.out _).mono ?_); rintro e w' ⟨rfl, hb'⟩; replace HB := HB.trans (hb'.mono HB.size); clear hb')) | (go_at_call 40; ((with_reducible refine (C6.out _).mono ?_); rintro e w' ⟨rfl, hb'⟩; replace HB := HB.trans (hb'.mono HB.size); clear hb')) | (go_at_call 42; ((with_reducible refine (C7.out _).mono ?_); rintro e w' ⟨rfl, hb'⟩; replace HB := HB.trans (hb'.mono HB.size); clear hb')) | (go_at_call 42; ((with_reducible refine (D8.out _).mono ?_); rintro e w' ⟨rfl, hb'⟩; replace HB := HB.trans (hb'.mono HB.size); clear hb')) | (go_at_call 42; ((with_reducible refine (D9.out _).mono ?_); rintro e w' ⟨rfl, hb'⟩; replace HB := HB.trans (hb'.mono HB.size); clear hb')) | (go_at_call 37; ((with_reducible refine (example_any _).mono ?_); rintro e w' ⟨rfl, hb'⟩; replace HB := HB.trans (hb'.mono HB.size); clear hb')))
      all_goals go_ret
      all_goals exact ⟨rfl, HB⟩
end Go.Proofs.Yteehnbgkgdhgaaa.Inv
