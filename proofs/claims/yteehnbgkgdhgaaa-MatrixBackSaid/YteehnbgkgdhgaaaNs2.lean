/-
  Fixed and Ratio, of package num and of its reference: what they compute, walked by hand.
-/
import Derived.Test.YteehnbgkgdhgaaaNs1
import Derived.Lib.Hide
import Derived.Outline
namespace Go.Proofs.Yteehnbgkgdhgaaa.Spec
open Go.RowKit Go.Proofs.Yteehnbgkgdhgaaa.NM Go.Proofs.YteehnbgkgdhgaaaW.PrintWords Go.Proofs.YteehnbgkgdhgaaaW.PrintLast Go.Proofs.YteehnbgkgdhgaaaW.PrintMore
set_option linter.unusedVariables false

theorem fix_end (A up hi lo : Int) (m : Bool) (h0 : 0 ≤ A) (hu : 0 ≤ up ∧ up ≤ 65535) (hA : A = hi * 18446744073709551616 + lo) (hlo : U64 lo) (hhi : 65536 ≤ hi) :
    signedS 18446744073709551615 m = signedS ((A + up) / 65536) m := by
  unfold U64 at hlo
  unfold signedS
  cases m
  · simp only [Bool.false_eq_true, if_false]; rw [if_pos (by omega), if_pos (by omega)]
  · simp only [if_true]; rw [if_pos (by omega), if_pos (by omega)]
theorem fix_or (S hi lo : Int) (hS : S = hi * 18446744073709551616 + lo) (hlo : U64 lo) (hhi0 : 0 ≤ hi) (hhi : hi < 65536) :
    Go.bits .or .u64 (hi * 281474976710656) (lo / 65536) = S / 65536 := by
  unfold U64 at hlo
  rw [or_hi _ _ 48 (by omega) (by omega) (by simp only [Nat.reducePow]; omega) (by simp only [Nat.reducePow]; omega) (by omega) (by omega)]
  omega

set_option maxHeartbeats 1000000 in
theorem fixed_any (a b : Int) (w : World) (ha : I64 a) (hb : I64 b) :
    Calls Try.prog 44 #[.int .i64 a, .int .i64 b] w fun e w' => e = .returned (.int .i64 (fixedS a b)) ∧ Drawn0 w w' := by
  have ua := mag_u64 ha
  have ub := mag_u64 hb
  rw [fixedS_mag]
  have hsa := fun w => size_any a w ha
  have hsb := fun w => size_any b w hb
  have ht := fun w => times_any (mag a) (mag b) w ua ub
  have hA0 : 0 ≤ mag a * mag b := Int.mul_nonneg (mag_nonneg a) (mag_nonneg b)
  have hA1 : mag a * mag b ≤ 85070591730234615865843651857942052864 := by
    have : mag a * mag b ≤ 9223372036854775808 * 9223372036854775808 := Int.mul_le_mul (mag_le ha.1 ha.2) (mag_le hb.1 hb.2) (mag_nonneg b) (by omega)
    omega
  generalize mag a * mag b = A at *
  have hhi : 0 ≤ A / 18446744073709551616 ∧ A / 18446744073709551616 ≤ 4611686018427387904 := by omega
  have hlo : 0 ≤ A % 18446744073709551616 ∧ A % 18446744073709551616 < 18446744073709551616 := by omega
  have hA : A = A / 18446744073709551616 * 18446744073709551616 + A % 18446744073709551616 := by omega
  generalize A / 18446744073709551616 = hi at *
  generalize A % 18446744073709551616 = lo at *
  have HSA := Lib.hid hsa
  have HSB := Lib.hid hsb
  have HT := Lib.hid ht
  have HA := Lib.hid hA
  clear hsa hsb ht hA
  obtain ⟨hhi1, hhi2⟩ := hhi
  obtain ⟨hlo1, hlo2⟩ := hlo
  unfold I64 at ha hb
  obtain ⟨ha1, ha2⟩ := ha
  obtain ⟨hb1, hb2⟩ := hb
  unfold U64 at ua ub
  by_cases hna : a < 0
  · by_cases hnb : b < 0
    · have hmB : minusB a b = false := by simp [minusB, hna, hnb]
      rw [hmB]
      simp only [Bool.false_eq_true, if_false]
      clear hmB
      by_cases hc : lo + 32768 < 18446744073709551616
      · by_cases hb : hi < 65536
        · have hor := fix_or (A + 32768) hi (lo + 32768) (by have := HA.out; omega) ⟨by omega, by omega⟩ hhi1 hb
          have HOR := Lib.hid hor
          clear hor
          go_enter Try.func44, Try.ntmps44
          go_wp2_with fail
          refine (HSA.out _).mono ?_; rintro e w' ⟨rfl, ⟨n1, rfl⟩⟩
          go_wp2_with fail
          refine (HSB.out _).mono ?_; rintro e w' ⟨rfl, ⟨n2, rfl⟩⟩
          go_wp2_with fail
          refine (HT.out _).mono ?_; rintro e w' ⟨rfl, ⟨n3, rfl⟩⟩
          go_wp2_with fail
          rw [HOR.out]
          refine (signed_any _ _ _ (by have := HA.out; unfold U64; omega)).mono ?_; rintro e w' ⟨rfl, ⟨n4, rfl⟩⟩
          go_wp2
          go_ret
          exact ⟨rfl, ⟨_, rfl⟩⟩
        · have hend := fix_end A 32768 hi lo false hA0 (by omega) HA.out ⟨hlo1, hlo2⟩ (by omega)
          rw [← hend]
          clear hend
          go_enter Try.func44, Try.ntmps44
          go_wp2_with fail
          refine (HSA.out _).mono ?_; rintro e w' ⟨rfl, ⟨n1, rfl⟩⟩
          go_wp2_with fail
          refine (HSB.out _).mono ?_; rintro e w' ⟨rfl, ⟨n2, rfl⟩⟩
          go_wp2_with fail
          refine (HT.out _).mono ?_; rintro e w' ⟨rfl, ⟨n3, rfl⟩⟩
          go_wp2_with fail
          refine (signed_any _ _ _ (by unfold U64; omega)).mono ?_; rintro e w' ⟨rfl, ⟨n4, rfl⟩⟩
          go_wp2
          go_ret
          exact ⟨rfl, ⟨_, rfl⟩⟩
      · obtain ⟨s, hs⟩ : ∃ s, IntKind.u64.wrap (lo + 32768) = s := ⟨_, rfl⟩
        have hs' : s = lo + 32768 - 18446744073709551616 := by rw [← hs, IntKind.wrap_u64]; omega
        have hs1 : 0 ≤ s := by omega
        have hs2 : s < lo := by omega
        have hs3 : s < 18446744073709551616 := by omega
        have HS := Lib.hid hs'
        clear hs' hc
        by_cases hb : hi + 1 < 65536
        · have hor := fix_or (A + 32768) (hi + 1) s (by have := HA.out; have := HS.out; omega) ⟨by omega, by omega⟩ (by omega) hb
          have HOR := Lib.hid hor
          clear hor
          go_enter Try.func44, Try.ntmps44
          go_wp2_with fail
          refine (HSA.out _).mono ?_; rintro e w' ⟨rfl, ⟨n1, rfl⟩⟩
          go_wp2_with fail
          refine (HSB.out _).mono ?_; rintro e w' ⟨rfl, ⟨n2, rfl⟩⟩
          go_wp2_with fail
          refine (HT.out _).mono ?_; rintro e w' ⟨rfl, ⟨n3, rfl⟩⟩
          go_wp2_with fail
          rw [HOR.out]
          refine (signed_any _ _ _ (by have := HA.out; unfold U64; omega)).mono ?_; rintro e w' ⟨rfl, ⟨n4, rfl⟩⟩
          go_wp2
          go_ret
          exact ⟨rfl, ⟨_, rfl⟩⟩
        · have hend : signedS 18446744073709551615 false = signedS ((A + 32768) / 65536) false := by have := fix_end (A + 32768) 0 (hi + 1) s false (by omega) (by omega) (by have := HA.out; have := HS.out; omega) ⟨hs1, hs3⟩ (by omega); simpa using this
          rw [← hend]
          clear hend
          go_enter Try.func44, Try.ntmps44
          go_wp2_with fail
          refine (HSA.out _).mono ?_; rintro e w' ⟨rfl, ⟨n1, rfl⟩⟩
          go_wp2_with fail
          refine (HSB.out _).mono ?_; rintro e w' ⟨rfl, ⟨n2, rfl⟩⟩
          go_wp2_with fail
          refine (HT.out _).mono ?_; rintro e w' ⟨rfl, ⟨n3, rfl⟩⟩
          go_wp2_with fail
          refine (signed_any _ _ _ (by unfold U64; omega)).mono ?_; rintro e w' ⟨rfl, ⟨n4, rfl⟩⟩
          go_wp2
          go_ret
          exact ⟨rfl, ⟨_, rfl⟩⟩
    · have hmB : minusB a b = true := by simp [minusB, hna, hnb]
      rw [hmB]
      simp only [if_true]
      clear hmB
      by_cases hc : lo + 32767 < 18446744073709551616
      · by_cases hb : hi < 65536
        · have hor := fix_or (A + 32767) hi (lo + 32767) (by have := HA.out; omega) ⟨by omega, by omega⟩ hhi1 hb
          have HOR := Lib.hid hor
          clear hor
          go_enter Try.func44, Try.ntmps44
          go_wp2_with fail
          refine (HSA.out _).mono ?_; rintro e w' ⟨rfl, ⟨n1, rfl⟩⟩
          go_wp2_with fail
          refine (HSB.out _).mono ?_; rintro e w' ⟨rfl, ⟨n2, rfl⟩⟩
          go_wp2_with fail
          refine (HT.out _).mono ?_; rintro e w' ⟨rfl, ⟨n3, rfl⟩⟩
          go_wp2_with fail
          rw [HOR.out]
          refine (signed_any _ _ _ (by have := HA.out; unfold U64; omega)).mono ?_; rintro e w' ⟨rfl, ⟨n4, rfl⟩⟩
          go_wp2
          go_ret
          exact ⟨rfl, ⟨_, rfl⟩⟩
        · have hend := fix_end A 32767 hi lo true hA0 (by omega) HA.out ⟨hlo1, hlo2⟩ (by omega)
          rw [← hend]
          clear hend
          go_enter Try.func44, Try.ntmps44
          go_wp2_with fail
          refine (HSA.out _).mono ?_; rintro e w' ⟨rfl, ⟨n1, rfl⟩⟩
          go_wp2_with fail
          refine (HSB.out _).mono ?_; rintro e w' ⟨rfl, ⟨n2, rfl⟩⟩
          go_wp2_with fail
          refine (HT.out _).mono ?_; rintro e w' ⟨rfl, ⟨n3, rfl⟩⟩
          go_wp2_with fail
          refine (signed_any _ _ _ (by unfold U64; omega)).mono ?_; rintro e w' ⟨rfl, ⟨n4, rfl⟩⟩
          go_wp2
          go_ret
          exact ⟨rfl, ⟨_, rfl⟩⟩
      · obtain ⟨s, hs⟩ : ∃ s, IntKind.u64.wrap (lo + 32767) = s := ⟨_, rfl⟩
        have hs' : s = lo + 32767 - 18446744073709551616 := by rw [← hs, IntKind.wrap_u64]; omega
        have hs1 : 0 ≤ s := by omega
        have hs2 : s < lo := by omega
        have hs3 : s < 18446744073709551616 := by omega
        have HS := Lib.hid hs'
        clear hs' hc
        by_cases hb : hi + 1 < 65536
        · have hor := fix_or (A + 32767) (hi + 1) s (by have := HA.out; have := HS.out; omega) ⟨by omega, by omega⟩ (by omega) hb
          have HOR := Lib.hid hor
          clear hor
          go_enter Try.func44, Try.ntmps44
          go_wp2_with fail
          refine (HSA.out _).mono ?_; rintro e w' ⟨rfl, ⟨n1, rfl⟩⟩
          go_wp2_with fail
          refine (HSB.out _).mono ?_; rintro e w' ⟨rfl, ⟨n2, rfl⟩⟩
          go_wp2_with fail
          refine (HT.out _).mono ?_; rintro e w' ⟨rfl, ⟨n3, rfl⟩⟩
          go_wp2_with fail
          rw [HOR.out]
          refine (signed_any _ _ _ (by have := HA.out; unfold U64; omega)).mono ?_; rintro e w' ⟨rfl, ⟨n4, rfl⟩⟩
          go_wp2
          go_ret
          exact ⟨rfl, ⟨_, rfl⟩⟩
        · have hend : signedS 18446744073709551615 true = signedS ((A + 32767) / 65536) true := by have := fix_end (A + 32767) 0 (hi + 1) s true (by omega) (by omega) (by have := HA.out; have := HS.out; omega) ⟨hs1, hs3⟩ (by omega); simpa using this
          rw [← hend]
          clear hend
          go_enter Try.func44, Try.ntmps44
          go_wp2_with fail
          refine (HSA.out _).mono ?_; rintro e w' ⟨rfl, ⟨n1, rfl⟩⟩
          go_wp2_with fail
          refine (HSB.out _).mono ?_; rintro e w' ⟨rfl, ⟨n2, rfl⟩⟩
          go_wp2_with fail
          refine (HT.out _).mono ?_; rintro e w' ⟨rfl, ⟨n3, rfl⟩⟩
          go_wp2_with fail
          refine (signed_any _ _ _ (by unfold U64; omega)).mono ?_; rintro e w' ⟨rfl, ⟨n4, rfl⟩⟩
          go_wp2
          go_ret
          exact ⟨rfl, ⟨_, rfl⟩⟩
  · by_cases hnb : b < 0
    · have hmB : minusB a b = true := by simp [minusB, hna, hnb]
      rw [hmB]
      simp only [if_true]
      clear hmB
      by_cases hc : lo + 32767 < 18446744073709551616
      · by_cases hb : hi < 65536
        · have hor := fix_or (A + 32767) hi (lo + 32767) (by have := HA.out; omega) ⟨by omega, by omega⟩ hhi1 hb
          have HOR := Lib.hid hor
          clear hor
          go_enter Try.func44, Try.ntmps44
          go_wp2_with fail
          refine (HSA.out _).mono ?_; rintro e w' ⟨rfl, ⟨n1, rfl⟩⟩
          go_wp2_with fail
          refine (HSB.out _).mono ?_; rintro e w' ⟨rfl, ⟨n2, rfl⟩⟩
          go_wp2_with fail
          refine (HT.out _).mono ?_; rintro e w' ⟨rfl, ⟨n3, rfl⟩⟩
          go_wp2_with fail
          rw [HOR.out]
          refine (signed_any _ _ _ (by have := HA.out; unfold U64; omega)).mono ?_; rintro e w' ⟨rfl, ⟨n4, rfl⟩⟩
          go_wp2
          go_ret
          exact ⟨rfl, ⟨_, rfl⟩⟩
        · have hend := fix_end A 32767 hi lo true hA0 (by omega) HA.out ⟨hlo1, hlo2⟩ (by omega)
          rw [← hend]
          clear hend
          go_enter Try.func44, Try.ntmps44
          go_wp2_with fail
          refine (HSA.out _).mono ?_; rintro e w' ⟨rfl, ⟨n1, rfl⟩⟩
          go_wp2_with fail
          refine (HSB.out _).mono ?_; rintro e w' ⟨rfl, ⟨n2, rfl⟩⟩
          go_wp2_with fail
          refine (HT.out _).mono ?_; rintro e w' ⟨rfl, ⟨n3, rfl⟩⟩
          go_wp2_with fail
          refine (signed_any _ _ _ (by unfold U64; omega)).mono ?_; rintro e w' ⟨rfl, ⟨n4, rfl⟩⟩
          go_wp2
          go_ret
          exact ⟨rfl, ⟨_, rfl⟩⟩
      · obtain ⟨s, hs⟩ : ∃ s, IntKind.u64.wrap (lo + 32767) = s := ⟨_, rfl⟩
        have hs' : s = lo + 32767 - 18446744073709551616 := by rw [← hs, IntKind.wrap_u64]; omega
        have hs1 : 0 ≤ s := by omega
        have hs2 : s < lo := by omega
        have hs3 : s < 18446744073709551616 := by omega
        have HS := Lib.hid hs'
        clear hs' hc
        by_cases hb : hi + 1 < 65536
        · have hor := fix_or (A + 32767) (hi + 1) s (by have := HA.out; have := HS.out; omega) ⟨by omega, by omega⟩ (by omega) hb
          have HOR := Lib.hid hor
          clear hor
          go_enter Try.func44, Try.ntmps44
          go_wp2_with fail
          refine (HSA.out _).mono ?_; rintro e w' ⟨rfl, ⟨n1, rfl⟩⟩
          go_wp2_with fail
          refine (HSB.out _).mono ?_; rintro e w' ⟨rfl, ⟨n2, rfl⟩⟩
          go_wp2_with fail
          refine (HT.out _).mono ?_; rintro e w' ⟨rfl, ⟨n3, rfl⟩⟩
          go_wp2_with fail
          rw [HOR.out]
          refine (signed_any _ _ _ (by have := HA.out; unfold U64; omega)).mono ?_; rintro e w' ⟨rfl, ⟨n4, rfl⟩⟩
          go_wp2
          go_ret
          exact ⟨rfl, ⟨_, rfl⟩⟩
        · have hend : signedS 18446744073709551615 true = signedS ((A + 32767) / 65536) true := by have := fix_end (A + 32767) 0 (hi + 1) s true (by omega) (by omega) (by have := HA.out; have := HS.out; omega) ⟨hs1, hs3⟩ (by omega); simpa using this
          rw [← hend]
          clear hend
          go_enter Try.func44, Try.ntmps44
          go_wp2_with fail
          refine (HSA.out _).mono ?_; rintro e w' ⟨rfl, ⟨n1, rfl⟩⟩
          go_wp2_with fail
          refine (HSB.out _).mono ?_; rintro e w' ⟨rfl, ⟨n2, rfl⟩⟩
          go_wp2_with fail
          refine (HT.out _).mono ?_; rintro e w' ⟨rfl, ⟨n3, rfl⟩⟩
          go_wp2_with fail
          refine (signed_any _ _ _ (by unfold U64; omega)).mono ?_; rintro e w' ⟨rfl, ⟨n4, rfl⟩⟩
          go_wp2
          go_ret
          exact ⟨rfl, ⟨_, rfl⟩⟩
    · have hmB : minusB a b = false := by simp [minusB, hna, hnb]
      rw [hmB]
      simp only [Bool.false_eq_true, if_false]
      clear hmB
      by_cases hc : lo + 32768 < 18446744073709551616
      · by_cases hb : hi < 65536
        · have hor := fix_or (A + 32768) hi (lo + 32768) (by have := HA.out; omega) ⟨by omega, by omega⟩ hhi1 hb
          have HOR := Lib.hid hor
          clear hor
          go_enter Try.func44, Try.ntmps44
          go_wp2_with fail
          refine (HSA.out _).mono ?_; rintro e w' ⟨rfl, ⟨n1, rfl⟩⟩
          go_wp2_with fail
          refine (HSB.out _).mono ?_; rintro e w' ⟨rfl, ⟨n2, rfl⟩⟩
          go_wp2_with fail
          refine (HT.out _).mono ?_; rintro e w' ⟨rfl, ⟨n3, rfl⟩⟩
          go_wp2_with fail
          rw [HOR.out]
          refine (signed_any _ _ _ (by have := HA.out; unfold U64; omega)).mono ?_; rintro e w' ⟨rfl, ⟨n4, rfl⟩⟩
          go_wp2
          go_ret
          exact ⟨rfl, ⟨_, rfl⟩⟩
        · have hend := fix_end A 32768 hi lo false hA0 (by omega) HA.out ⟨hlo1, hlo2⟩ (by omega)
          rw [← hend]
          clear hend
          go_enter Try.func44, Try.ntmps44
          go_wp2_with fail
          refine (HSA.out _).mono ?_; rintro e w' ⟨rfl, ⟨n1, rfl⟩⟩
          go_wp2_with fail
          refine (HSB.out _).mono ?_; rintro e w' ⟨rfl, ⟨n2, rfl⟩⟩
          go_wp2_with fail
          refine (HT.out _).mono ?_; rintro e w' ⟨rfl, ⟨n3, rfl⟩⟩
          go_wp2_with fail
          refine (signed_any _ _ _ (by unfold U64; omega)).mono ?_; rintro e w' ⟨rfl, ⟨n4, rfl⟩⟩
          go_wp2
          go_ret
          exact ⟨rfl, ⟨_, rfl⟩⟩
      · obtain ⟨s, hs⟩ : ∃ s, IntKind.u64.wrap (lo + 32768) = s := ⟨_, rfl⟩
        have hs' : s = lo + 32768 - 18446744073709551616 := by rw [← hs, IntKind.wrap_u64]; omega
        have hs1 : 0 ≤ s := by omega
        have hs2 : s < lo := by omega
        have hs3 : s < 18446744073709551616 := by omega
        have HS := Lib.hid hs'
        clear hs' hc
        by_cases hb : hi + 1 < 65536
        · have hor := fix_or (A + 32768) (hi + 1) s (by have := HA.out; have := HS.out; omega) ⟨by omega, by omega⟩ (by omega) hb
          have HOR := Lib.hid hor
          clear hor
          go_enter Try.func44, Try.ntmps44
          go_wp2_with fail
          refine (HSA.out _).mono ?_; rintro e w' ⟨rfl, ⟨n1, rfl⟩⟩
          go_wp2_with fail
          refine (HSB.out _).mono ?_; rintro e w' ⟨rfl, ⟨n2, rfl⟩⟩
          go_wp2_with fail
          refine (HT.out _).mono ?_; rintro e w' ⟨rfl, ⟨n3, rfl⟩⟩
          go_wp2_with fail
          rw [HOR.out]
          refine (signed_any _ _ _ (by have := HA.out; unfold U64; omega)).mono ?_; rintro e w' ⟨rfl, ⟨n4, rfl⟩⟩
          go_wp2
          go_ret
          exact ⟨rfl, ⟨_, rfl⟩⟩
        · have hend : signedS 18446744073709551615 false = signedS ((A + 32768) / 65536) false := by have := fix_end (A + 32768) 0 (hi + 1) s false (by omega) (by omega) (by have := HA.out; have := HS.out; omega) ⟨hs1, hs3⟩ (by omega); simpa using this
          rw [← hend]
          clear hend
          go_enter Try.func44, Try.ntmps44
          go_wp2_with fail
          refine (HSA.out _).mono ?_; rintro e w' ⟨rfl, ⟨n1, rfl⟩⟩
          go_wp2_with fail
          refine (HSB.out _).mono ?_; rintro e w' ⟨rfl, ⟨n2, rfl⟩⟩
          go_wp2_with fail
          refine (HT.out _).mono ?_; rintro e w' ⟨rfl, ⟨n3, rfl⟩⟩
          go_wp2_with fail
          refine (signed_any _ _ _ (by unfold U64; omega)).mono ?_; rintro e w' ⟨rfl, ⟨n4, rfl⟩⟩
          go_wp2
          go_ret
          exact ⟨rfl, ⟨_, rfl⟩⟩
theorem fix_or2 (S hi lo : Int) (hS : S = hi * 18446744073709551616 + lo) (hlo : U64 lo) (hhi0 : 0 ≤ hi) :
    U64 (Go.bits .or .u64 (IntKind.u64.wrap (hi * 281474976710656)) (lo / 65536)) ∧ hi / 65536 * 18446744073709551616 + Go.bits .or .u64 (IntKind.u64.wrap (hi * 281474976710656)) (lo / 65536) = S / 65536 := by
  unfold U64 at *
  rw [IntKind.wrap_u64]
  rw [or_hi _ _ 48 (by omega) (by omega) (by simp only [Nat.reducePow]; omega) (by simp only [Nat.reducePow]; omega) (by omega) (by omega)]
  omega
set_option maxHeartbeats 1000000 in
theorem rfixed_any (a b : Int) (w : World) (ha : I64 a) (hb : I64 b) :
    Calls Try.prog 45 #[.int .i64 a, .int .i64 b] w fun e w' => e = .returned (.int .i64 (fixedS a b)) ∧ Drawn0 w w' := by
  have ua := mag_u64 ha
  have ub := mag_u64 hb
  rw [fixedS_mag]
  have hsa := fun w => abs_any a w ha
  have hsb := fun w => abs_any b w hb
  have ht := fun w => product_any (mag a) (mag b) w ua ub
  have hA0 : 0 ≤ mag a * mag b := Int.mul_nonneg (mag_nonneg a) (mag_nonneg b)
  have hA1 : mag a * mag b ≤ 85070591730234615865843651857942052864 := by
    have : mag a * mag b ≤ 9223372036854775808 * 9223372036854775808 := Int.mul_le_mul (mag_le ha.1 ha.2) (mag_le hb.1 hb.2) (mag_nonneg b) (by omega)
    omega
  generalize mag a * mag b = A at *
  have hhi : 0 ≤ A / 18446744073709551616 ∧ A / 18446744073709551616 ≤ 4611686018427387904 := by omega
  have hlo : 0 ≤ A % 18446744073709551616 ∧ A % 18446744073709551616 < 18446744073709551616 := by omega
  have hA : A = A / 18446744073709551616 * 18446744073709551616 + A % 18446744073709551616 := by omega
  generalize A / 18446744073709551616 = hi at *
  generalize A % 18446744073709551616 = lo at *
  have HSA := Lib.hid hsa
  have HSB := Lib.hid hsb
  have HT := Lib.hid ht
  have HA := Lib.hid hA
  clear hsa hsb ht hA
  obtain ⟨hhi1, hhi2⟩ := hhi
  obtain ⟨hlo1, hlo2⟩ := hlo
  unfold I64 at ha hb
  obtain ⟨ha1, ha2⟩ := ha
  obtain ⟨hb1, hb2⟩ := hb
  unfold U64 at ua ub
  by_cases hna : a < 0
  · by_cases hnb : b < 0
    · have hmB : minusB a b = false := by simp [minusB, hna, hnb]
      rw [hmB]
      simp only [Bool.false_eq_true, if_false]
      clear hmB
      by_cases hc : lo + 32768 < 18446744073709551616
      · have hor := fix_or2 (A + 32768) hi (lo + 32768) (by have := HA.out; omega) ⟨by omega, by omega⟩ hhi1
        have HOR := Lib.hid hor
        clear hor
        go_enter Try.func45, Try.ntmps45
        go_wp2_with fail
        refine (HSA.out _).mono ?_; rintro e w' ⟨rfl, ⟨n1, rfl⟩⟩
        go_wp2_with fail
        refine (HSB.out _).mono ?_; rintro e w' ⟨rfl, ⟨n2, rfl⟩⟩
        go_wp2_with fail
        refine (HT.out _).mono ?_; rintro e w' ⟨rfl, ⟨n3, rfl⟩⟩
        go_wp2_with fail
        refine (rsigned_any _ _ _ _ (by omega) HOR.out.1).mono ?_; rintro e w' ⟨rfl, ⟨n4, rfl⟩⟩
        rw [HOR.out.2]
        go_wp2
        go_ret
        exact ⟨rfl, ⟨_, rfl⟩⟩
      · obtain ⟨s, hs⟩ : ∃ s, IntKind.u64.wrap (lo + 32768) = s := ⟨_, rfl⟩
        have hs' : s = lo + 32768 - 18446744073709551616 := by rw [← hs, IntKind.wrap_u64]; omega
        have hs1 : 0 ≤ s := by omega
        have hs2 : s < lo := by omega
        have hs3 : s < 18446744073709551616 := by omega
        have HS := Lib.hid hs'
        clear hs' hc
        have hor := fix_or2 (A + 32768) (hi + 1) s (by have := HA.out; have := HS.out; omega) ⟨by omega, by omega⟩ (by omega)
        have HOR := Lib.hid hor
        clear hor
        go_enter Try.func45, Try.ntmps45
        go_wp2_with fail
        refine (HSA.out _).mono ?_; rintro e w' ⟨rfl, ⟨n1, rfl⟩⟩
        go_wp2_with fail
        refine (HSB.out _).mono ?_; rintro e w' ⟨rfl, ⟨n2, rfl⟩⟩
        go_wp2_with fail
        refine (HT.out _).mono ?_; rintro e w' ⟨rfl, ⟨n3, rfl⟩⟩
        go_wp2_with fail
        refine (rsigned_any _ _ _ _ (by omega) HOR.out.1).mono ?_; rintro e w' ⟨rfl, ⟨n4, rfl⟩⟩
        rw [HOR.out.2]
        go_wp2
        go_ret
        exact ⟨rfl, ⟨_, rfl⟩⟩
    · have hmB : minusB a b = true := by simp [minusB, hna, hnb]
      rw [hmB]
      simp only [if_true]
      clear hmB
      by_cases hc : lo + 32767 < 18446744073709551616
      · have hor := fix_or2 (A + 32767) hi (lo + 32767) (by have := HA.out; omega) ⟨by omega, by omega⟩ hhi1
        have HOR := Lib.hid hor
        clear hor
        go_enter Try.func45, Try.ntmps45
        go_wp2_with fail
        refine (HSA.out _).mono ?_; rintro e w' ⟨rfl, ⟨n1, rfl⟩⟩
        go_wp2_with fail
        refine (HSB.out _).mono ?_; rintro e w' ⟨rfl, ⟨n2, rfl⟩⟩
        go_wp2_with fail
        refine (HT.out _).mono ?_; rintro e w' ⟨rfl, ⟨n3, rfl⟩⟩
        go_wp2_with fail
        refine (rsigned_any _ _ _ _ (by omega) HOR.out.1).mono ?_; rintro e w' ⟨rfl, ⟨n4, rfl⟩⟩
        rw [HOR.out.2]
        go_wp2
        go_ret
        exact ⟨rfl, ⟨_, rfl⟩⟩
      · obtain ⟨s, hs⟩ : ∃ s, IntKind.u64.wrap (lo + 32767) = s := ⟨_, rfl⟩
        have hs' : s = lo + 32767 - 18446744073709551616 := by rw [← hs, IntKind.wrap_u64]; omega
        have hs1 : 0 ≤ s := by omega
        have hs2 : s < lo := by omega
        have hs3 : s < 18446744073709551616 := by omega
        have HS := Lib.hid hs'
        clear hs' hc
        have hor := fix_or2 (A + 32767) (hi + 1) s (by have := HA.out; have := HS.out; omega) ⟨by omega, by omega⟩ (by omega)
        have HOR := Lib.hid hor
        clear hor
        go_enter Try.func45, Try.ntmps45
        go_wp2_with fail
        refine (HSA.out _).mono ?_; rintro e w' ⟨rfl, ⟨n1, rfl⟩⟩
        go_wp2_with fail
        refine (HSB.out _).mono ?_; rintro e w' ⟨rfl, ⟨n2, rfl⟩⟩
        go_wp2_with fail
        refine (HT.out _).mono ?_; rintro e w' ⟨rfl, ⟨n3, rfl⟩⟩
        go_wp2_with fail
        refine (rsigned_any _ _ _ _ (by omega) HOR.out.1).mono ?_; rintro e w' ⟨rfl, ⟨n4, rfl⟩⟩
        rw [HOR.out.2]
        go_wp2
        go_ret
        exact ⟨rfl, ⟨_, rfl⟩⟩
  · by_cases hnb : b < 0
    · have hmB : minusB a b = true := by simp [minusB, hna, hnb]
      rw [hmB]
      simp only [if_true]
      clear hmB
      by_cases hc : lo + 32767 < 18446744073709551616
      · have hor := fix_or2 (A + 32767) hi (lo + 32767) (by have := HA.out; omega) ⟨by omega, by omega⟩ hhi1
        have HOR := Lib.hid hor
        clear hor
        go_enter Try.func45, Try.ntmps45
        go_wp2_with fail
        refine (HSA.out _).mono ?_; rintro e w' ⟨rfl, ⟨n1, rfl⟩⟩
        go_wp2_with fail
        refine (HSB.out _).mono ?_; rintro e w' ⟨rfl, ⟨n2, rfl⟩⟩
        go_wp2_with fail
        refine (HT.out _).mono ?_; rintro e w' ⟨rfl, ⟨n3, rfl⟩⟩
        go_wp2_with fail
        refine (rsigned_any _ _ _ _ (by omega) HOR.out.1).mono ?_; rintro e w' ⟨rfl, ⟨n4, rfl⟩⟩
        rw [HOR.out.2]
        go_wp2
        go_ret
        exact ⟨rfl, ⟨_, rfl⟩⟩
      · obtain ⟨s, hs⟩ : ∃ s, IntKind.u64.wrap (lo + 32767) = s := ⟨_, rfl⟩
        have hs' : s = lo + 32767 - 18446744073709551616 := by rw [← hs, IntKind.wrap_u64]; omega
        have hs1 : 0 ≤ s := by omega
        have hs2 : s < lo := by omega
        have hs3 : s < 18446744073709551616 := by omega
        have HS := Lib.hid hs'
        clear hs' hc
        have hor := fix_or2 (A + 32767) (hi + 1) s (by have := HA.out; have := HS.out; omega) ⟨by omega, by omega⟩ (by omega)
        have HOR := Lib.hid hor
        clear hor
        go_enter Try.func45, Try.ntmps45
        go_wp2_with fail
        refine (HSA.out _).mono ?_; rintro e w' ⟨rfl, ⟨n1, rfl⟩⟩
        go_wp2_with fail
        refine (HSB.out _).mono ?_; rintro e w' ⟨rfl, ⟨n2, rfl⟩⟩
        go_wp2_with fail
        refine (HT.out _).mono ?_; rintro e w' ⟨rfl, ⟨n3, rfl⟩⟩
        go_wp2_with fail
        refine (rsigned_any _ _ _ _ (by omega) HOR.out.1).mono ?_; rintro e w' ⟨rfl, ⟨n4, rfl⟩⟩
        rw [HOR.out.2]
        go_wp2
        go_ret
        exact ⟨rfl, ⟨_, rfl⟩⟩
    · have hmB : minusB a b = false := by simp [minusB, hna, hnb]
      rw [hmB]
      simp only [Bool.false_eq_true, if_false]
      clear hmB
      by_cases hc : lo + 32768 < 18446744073709551616
      · have hor := fix_or2 (A + 32768) hi (lo + 32768) (by have := HA.out; omega) ⟨by omega, by omega⟩ hhi1
        have HOR := Lib.hid hor
        clear hor
        go_enter Try.func45, Try.ntmps45
        go_wp2_with fail
        refine (HSA.out _).mono ?_; rintro e w' ⟨rfl, ⟨n1, rfl⟩⟩
        go_wp2_with fail
        refine (HSB.out _).mono ?_; rintro e w' ⟨rfl, ⟨n2, rfl⟩⟩
        go_wp2_with fail
        refine (HT.out _).mono ?_; rintro e w' ⟨rfl, ⟨n3, rfl⟩⟩
        go_wp2_with fail
        refine (rsigned_any _ _ _ _ (by omega) HOR.out.1).mono ?_; rintro e w' ⟨rfl, ⟨n4, rfl⟩⟩
        rw [HOR.out.2]
        go_wp2
        go_ret
        exact ⟨rfl, ⟨_, rfl⟩⟩
      · obtain ⟨s, hs⟩ : ∃ s, IntKind.u64.wrap (lo + 32768) = s := ⟨_, rfl⟩
        have hs' : s = lo + 32768 - 18446744073709551616 := by rw [← hs, IntKind.wrap_u64]; omega
        have hs1 : 0 ≤ s := by omega
        have hs2 : s < lo := by omega
        have hs3 : s < 18446744073709551616 := by omega
        have HS := Lib.hid hs'
        clear hs' hc
        have hor := fix_or2 (A + 32768) (hi + 1) s (by have := HA.out; have := HS.out; omega) ⟨by omega, by omega⟩ (by omega)
        have HOR := Lib.hid hor
        clear hor
        go_enter Try.func45, Try.ntmps45
        go_wp2_with fail
        refine (HSA.out _).mono ?_; rintro e w' ⟨rfl, ⟨n1, rfl⟩⟩
        go_wp2_with fail
        refine (HSB.out _).mono ?_; rintro e w' ⟨rfl, ⟨n2, rfl⟩⟩
        go_wp2_with fail
        refine (HT.out _).mono ?_; rintro e w' ⟨rfl, ⟨n3, rfl⟩⟩
        go_wp2_with fail
        refine (rsigned_any _ _ _ _ (by omega) HOR.out.1).mono ?_; rintro e w' ⟨rfl, ⟨n4, rfl⟩⟩
        rw [HOR.out.2]
        go_wp2
        go_ret
        exact ⟨rfl, ⟨_, rfl⟩⟩
end Go.Proofs.Yteehnbgkgdhgaaa.Spec
