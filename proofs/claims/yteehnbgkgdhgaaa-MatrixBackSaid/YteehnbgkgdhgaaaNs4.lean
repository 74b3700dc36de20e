/-
  Ratio of the reference.
-/
import Derived.Test.YteehnbgkgdhgaaaNs3
namespace Go.Proofs.Yteehnbgkgdhgaaa.Spec
open Go.RowKit Go.Proofs.Yteehnbgkgdhgaaa.NM Go.Proofs.YteehnbgkgdhgaaaW.PrintWords Go.Proofs.YteehnbgkgdhgaaaW.PrintLast Go.Proofs.YteehnbgkgdhgaaaW.PrintMore
set_option linter.unusedVariables false

set_option maxHeartbeats 1000000 in
theorem rratio_any (a b : Int) (w : World) (ha : I64 a) (hb : I64 b) :
    Calls Try.prog 47 #[.int .i64 a, .int .i64 b] w fun e w' => e = .returned (.int .i64 (ratioS a b)) ∧ Drawn0 w w' := by
  by_cases hz : b = 0
  · subst hz
    have : ratioS a 0 = 0 := by unfold ratioS; simp
    rw [this]
    go_enter Try.func47, Try.ntmps47
    go_wp2
    go_ret
    exact ⟨rfl, Drawn0.refl _⟩
  · have hc0 : (b == 0) = false := by simpa using hz
    have hsa := fun w => abs_any a w ha
    have hsb := fun w => abs_any b w hb
    have hn0 := mag_nonneg a
    have hn1 := mag_le ha.1 ha.2
    have hd1 := mag_le hb.1 hb.2
    have hd0 : 1 ≤ mag b := by unfold mag; split <;> omega
    have hup := fun (q r : Int) (h : RI (mag a) (mag b) 16 q r) => ri_up h hz
    have hdown := fun (q r : Int) (h : RI (mag a) (mag b) 16 q r) => ri_down h hz
    have ht := fun w => product_any (mag a) 65536 w (mag_u64 ha) (by unfold U64; omega)
    obtain ⟨q1, q0, r, ⟨hqa, hqb, hra, hrb, hri⟩, hq⟩ := quotient_any (mag a * 65536 / 18446744073709551616) (mag a * 65536 % 18446744073709551616) (mag b) w (by unfold U64; omega) (by unfold U64; omega) (by omega) hd1
    have HRI : Hid (RI (mag a) (mag b) 16 (q1 * 18446744073709551616 + q0) r) := by show _ * _ = _; rw [← hri]; simp only [Nat.reducePow]; omega
    have hq1 : q1 ≤ 65536 := by
      refine Int.not_lt.mp fun hlt => ?_
      have h1 : (65536 * 18446744073709551616 : Int) ≤ q1 * 18446744073709551616 + q0 := by unfold U64 at hqb; omega
      have h2 : 1 * (q1 * 18446744073709551616 + q0) ≤ mag b * (q1 * 18446744073709551616 + q0) := Int.mul_le_mul_of_nonneg_right hd0 (by omega)
      omega
    clear hri
    generalize mag a = n at *
    generalize mag b = d at *
    generalize ratioS a b = R at *
    obtain ⟨hqb0, hqb1⟩ := hqb
    have HSA := Lib.hid hsa
    have HSB := Lib.hid hsb
    have HT := Lib.hid ht
    have HQ := Lib.hid hq
    have HUP := Lib.hid hup
    have HDOWN := Lib.hid hdown
    clear hsa hsb ht hq hup hdown
    unfold I64 at ha hb
    obtain ⟨ha1, ha2⟩ := ha
    obtain ⟨hb1, hb2⟩ := hb
    by_cases hna : a < 0
    · by_cases hnb : b < 0
      · have hmB : minusB a b = false := by simp [minusB, hna, hnb]
        have HM := Lib.hid hmB
        clear hmB
        by_cases hu : d - r ≤ r
        · have hfin := HUP.out (q1 * 18446744073709551616 + q0) r HRI.out (by omega) hra hrb false HM.out (by by_cases h : d - r < r; exact .inl h; exact .inr ⟨by omega, rfl⟩)
          clear HM HUP HDOWN
          by_cases ht : q0 < 18446744073709551615
          · have HFIN : Hid (signedS (q1 * 18446744073709551616 + (q0 + 1)) false = R) := by rw [← hfin]; congr 1; omega
            clear hfin
            go_enter Try.func47, Try.ntmps47
            go_wp2_with fail
            refine (HSB.out _).mono ?_; rintro e w' ⟨rfl, ⟨n1, rfl⟩⟩
            go_wp2_with fail
            refine (HSA.out _).mono ?_; rintro e w' ⟨rfl, ⟨n2, rfl⟩⟩
            go_wp2_with fail
            refine (HT.out _).mono ?_; rintro e w' ⟨rfl, ⟨n3, rfl⟩⟩
            go_wp2_with fail
            refine (HQ.out _).mono ?_; rintro e w' ⟨rfl, ⟨n4, rfl⟩⟩
            go_wp2_with fail
            refine (rsigned_any _ _ _ _ (by omega) (by unfold U64; omega)).mono ?_; rintro e w' ⟨rfl, ⟨n5, rfl⟩⟩
            go_wp2
            go_ret
            exact ⟨ret_int HFIN.out, by repeat (first | exact Drawn0.refl _ | apply Drawn0.step)⟩
          · have hw : IntKind.u64.wrap (q0 + 1) = 0 := by rw [IntKind.wrap_u64]; omega
            have HFIN : Hid (signedS ((q1 + 1) * 18446744073709551616) false = R) := by rw [← hfin]; congr 1; omega
            clear hfin
            go_enter Try.func47, Try.ntmps47
            go_wp2_with fail
            refine (HSB.out _).mono ?_; rintro e w' ⟨rfl, ⟨n1, rfl⟩⟩
            go_wp2_with fail
            refine (HSA.out _).mono ?_; rintro e w' ⟨rfl, ⟨n2, rfl⟩⟩
            go_wp2_with fail
            refine (HT.out _).mono ?_; rintro e w' ⟨rfl, ⟨n3, rfl⟩⟩
            go_wp2_with fail
            refine (HQ.out _).mono ?_; rintro e w' ⟨rfl, ⟨n4, rfl⟩⟩
            go_wp2_with fail
            refine (rsigned_any _ _ _ _ (by omega) (by unfold U64; omega)).mono ?_; rintro e w' ⟨rfl, ⟨n5, rfl⟩⟩
            go_wp2
            go_ret
            exact ⟨ret_int HFIN.out, by repeat (first | exact Drawn0.refl _ | apply Drawn0.step)⟩
        · have hfin := HDOWN.out (q1 * 18446744073709551616 + q0) r HRI.out (by omega) hra hrb false HM.out (fun h => by rcases h with h | h <;> omega)
          have HFIN := Lib.hid hfin
          clear hfin HM HUP HDOWN
          go_enter Try.func47, Try.ntmps47
          go_wp2_with fail
          refine (HSB.out _).mono ?_; rintro e w' ⟨rfl, ⟨n1, rfl⟩⟩
          go_wp2_with fail
          refine (HSA.out _).mono ?_; rintro e w' ⟨rfl, ⟨n2, rfl⟩⟩
          go_wp2_with fail
          refine (HT.out _).mono ?_; rintro e w' ⟨rfl, ⟨n3, rfl⟩⟩
          go_wp2_with fail
          refine (HQ.out _).mono ?_; rintro e w' ⟨rfl, ⟨n4, rfl⟩⟩
          go_wp2_with fail
          refine (rsigned_any _ _ _ _ (by omega) (by unfold U64; omega)).mono ?_; rintro e w' ⟨rfl, ⟨n5, rfl⟩⟩
          go_wp2
          go_ret
          exact ⟨ret_int HFIN.out, by repeat (first | exact Drawn0.refl _ | apply Drawn0.step)⟩
      · have hmB : minusB a b = true := by simp [minusB, hna, hnb]
        have HM := Lib.hid hmB
        clear hmB
        by_cases hu : d - r < r
        · have hfin := HUP.out (q1 * 18446744073709551616 + q0) r HRI.out (by omega) hra hrb true HM.out (.inl hu)
          clear HM HUP HDOWN
          by_cases ht : q0 < 18446744073709551615
          · have HFIN : Hid (signedS (q1 * 18446744073709551616 + (q0 + 1)) true = R) := by rw [← hfin]; congr 1; omega
            clear hfin
            go_enter Try.func47, Try.ntmps47
            go_wp2_with fail
            refine (HSB.out _).mono ?_; rintro e w' ⟨rfl, ⟨n1, rfl⟩⟩
            go_wp2_with fail
            refine (HSA.out _).mono ?_; rintro e w' ⟨rfl, ⟨n2, rfl⟩⟩
            go_wp2_with fail
            refine (HT.out _).mono ?_; rintro e w' ⟨rfl, ⟨n3, rfl⟩⟩
            go_wp2_with fail
            refine (HQ.out _).mono ?_; rintro e w' ⟨rfl, ⟨n4, rfl⟩⟩
            go_wp2_with fail
            refine (rsigned_any _ _ _ _ (by omega) (by unfold U64; omega)).mono ?_; rintro e w' ⟨rfl, ⟨n5, rfl⟩⟩
            go_wp2
            go_ret
            exact ⟨ret_int HFIN.out, by repeat (first | exact Drawn0.refl _ | apply Drawn0.step)⟩
          · have hw : IntKind.u64.wrap (q0 + 1) = 0 := by rw [IntKind.wrap_u64]; omega
            have HFIN : Hid (signedS ((q1 + 1) * 18446744073709551616) true = R) := by rw [← hfin]; congr 1; omega
            clear hfin
            go_enter Try.func47, Try.ntmps47
            go_wp2_with fail
            refine (HSB.out _).mono ?_; rintro e w' ⟨rfl, ⟨n1, rfl⟩⟩
            go_wp2_with fail
            refine (HSA.out _).mono ?_; rintro e w' ⟨rfl, ⟨n2, rfl⟩⟩
            go_wp2_with fail
            refine (HT.out _).mono ?_; rintro e w' ⟨rfl, ⟨n3, rfl⟩⟩
            go_wp2_with fail
            refine (HQ.out _).mono ?_; rintro e w' ⟨rfl, ⟨n4, rfl⟩⟩
            go_wp2_with fail
            refine (rsigned_any _ _ _ _ (by omega) (by unfold U64; omega)).mono ?_; rintro e w' ⟨rfl, ⟨n5, rfl⟩⟩
            go_wp2
            go_ret
            exact ⟨ret_int HFIN.out, by repeat (first | exact Drawn0.refl _ | apply Drawn0.step)⟩
        · have hfin := HDOWN.out (q1 * 18446744073709551616 + q0) r HRI.out (by omega) hra hrb true HM.out (fun h => h.elim hu fun h => by simp at h)
          have HFIN := Lib.hid hfin
          clear hfin HM HUP HDOWN
          go_enter Try.func47, Try.ntmps47
          go_wp2_with fail
          refine (HSB.out _).mono ?_; rintro e w' ⟨rfl, ⟨n1, rfl⟩⟩
          go_wp2_with fail
          refine (HSA.out _).mono ?_; rintro e w' ⟨rfl, ⟨n2, rfl⟩⟩
          go_wp2_with fail
          refine (HT.out _).mono ?_; rintro e w' ⟨rfl, ⟨n3, rfl⟩⟩
          go_wp2_with fail
          refine (HQ.out _).mono ?_; rintro e w' ⟨rfl, ⟨n4, rfl⟩⟩
          go_wp2_with fail
          refine (rsigned_any _ _ _ _ (by omega) (by unfold U64; omega)).mono ?_; rintro e w' ⟨rfl, ⟨n5, rfl⟩⟩
          go_wp2
          go_ret
          exact ⟨ret_int HFIN.out, by repeat (first | exact Drawn0.refl _ | apply Drawn0.step)⟩
    · by_cases hnb : b < 0
      · have hmB : minusB a b = true := by simp [minusB, hna, hnb]
        have HM := Lib.hid hmB
        clear hmB
        by_cases hu : d - r < r
        · have hfin := HUP.out (q1 * 18446744073709551616 + q0) r HRI.out (by omega) hra hrb true HM.out (.inl hu)
          clear HM HUP HDOWN
          by_cases ht : q0 < 18446744073709551615
          · have HFIN : Hid (signedS (q1 * 18446744073709551616 + (q0 + 1)) true = R) := by rw [← hfin]; congr 1; omega
            clear hfin
            go_enter Try.func47, Try.ntmps47
            go_wp2_with fail
            refine (HSB.out _).mono ?_; rintro e w' ⟨rfl, ⟨n1, rfl⟩⟩
            go_wp2_with fail
            refine (HSA.out _).mono ?_; rintro e w' ⟨rfl, ⟨n2, rfl⟩⟩
            go_wp2_with fail
            refine (HT.out _).mono ?_; rintro e w' ⟨rfl, ⟨n3, rfl⟩⟩
            go_wp2_with fail
            refine (HQ.out _).mono ?_; rintro e w' ⟨rfl, ⟨n4, rfl⟩⟩
            go_wp2_with fail
            refine (rsigned_any _ _ _ _ (by omega) (by unfold U64; omega)).mono ?_; rintro e w' ⟨rfl, ⟨n5, rfl⟩⟩
            go_wp2
            go_ret
            exact ⟨ret_int HFIN.out, by repeat (first | exact Drawn0.refl _ | apply Drawn0.step)⟩
          · have hw : IntKind.u64.wrap (q0 + 1) = 0 := by rw [IntKind.wrap_u64]; omega
            have HFIN : Hid (signedS ((q1 + 1) * 18446744073709551616) true = R) := by rw [← hfin]; congr 1; omega
            clear hfin
            go_enter Try.func47, Try.ntmps47
            go_wp2_with fail
            refine (HSB.out _).mono ?_; rintro e w' ⟨rfl, ⟨n1, rfl⟩⟩
            go_wp2_with fail
            refine (HSA.out _).mono ?_; rintro e w' ⟨rfl, ⟨n2, rfl⟩⟩
            go_wp2_with fail
            refine (HT.out _).mono ?_; rintro e w' ⟨rfl, ⟨n3, rfl⟩⟩
            go_wp2_with fail
            refine (HQ.out _).mono ?_; rintro e w' ⟨rfl, ⟨n4, rfl⟩⟩
            go_wp2_with fail
            refine (rsigned_any _ _ _ _ (by omega) (by unfold U64; omega)).mono ?_; rintro e w' ⟨rfl, ⟨n5, rfl⟩⟩
            go_wp2
            go_ret
            exact ⟨ret_int HFIN.out, by repeat (first | exact Drawn0.refl _ | apply Drawn0.step)⟩
        · have hfin := HDOWN.out (q1 * 18446744073709551616 + q0) r HRI.out (by omega) hra hrb true HM.out (fun h => h.elim hu fun h => by simp at h)
          have HFIN := Lib.hid hfin
          clear hfin HM HUP HDOWN
          go_enter Try.func47, Try.ntmps47
          go_wp2_with fail
          refine (HSB.out _).mono ?_; rintro e w' ⟨rfl, ⟨n1, rfl⟩⟩
          go_wp2_with fail
          refine (HSA.out _).mono ?_; rintro e w' ⟨rfl, ⟨n2, rfl⟩⟩
          go_wp2_with fail
          refine (HT.out _).mono ?_; rintro e w' ⟨rfl, ⟨n3, rfl⟩⟩
          go_wp2_with fail
          refine (HQ.out _).mono ?_; rintro e w' ⟨rfl, ⟨n4, rfl⟩⟩
          go_wp2_with fail
          refine (rsigned_any _ _ _ _ (by omega) (by unfold U64; omega)).mono ?_; rintro e w' ⟨rfl, ⟨n5, rfl⟩⟩
          go_wp2
          go_ret
          exact ⟨ret_int HFIN.out, by repeat (first | exact Drawn0.refl _ | apply Drawn0.step)⟩
      · have hmB : minusB a b = false := by simp [minusB, hna, hnb]
        have HM := Lib.hid hmB
        clear hmB
        by_cases hu : d - r ≤ r
        · have hfin := HUP.out (q1 * 18446744073709551616 + q0) r HRI.out (by omega) hra hrb false HM.out (by by_cases h : d - r < r; exact .inl h; exact .inr ⟨by omega, rfl⟩)
          clear HM HUP HDOWN
          by_cases ht : q0 < 18446744073709551615
          · have HFIN : Hid (signedS (q1 * 18446744073709551616 + (q0 + 1)) false = R) := by rw [← hfin]; congr 1; omega
            clear hfin
            go_enter Try.func47, Try.ntmps47
            go_wp2_with fail
            refine (HSB.out _).mono ?_; rintro e w' ⟨rfl, ⟨n1, rfl⟩⟩
            go_wp2_with fail
            refine (HSA.out _).mono ?_; rintro e w' ⟨rfl, ⟨n2, rfl⟩⟩
            go_wp2_with fail
            refine (HT.out _).mono ?_; rintro e w' ⟨rfl, ⟨n3, rfl⟩⟩
            go_wp2_with fail
            refine (HQ.out _).mono ?_; rintro e w' ⟨rfl, ⟨n4, rfl⟩⟩
            go_wp2_with fail
            refine (rsigned_any _ _ _ _ (by omega) (by unfold U64; omega)).mono ?_; rintro e w' ⟨rfl, ⟨n5, rfl⟩⟩
            go_wp2
            go_ret
            exact ⟨ret_int HFIN.out, by repeat (first | exact Drawn0.refl _ | apply Drawn0.step)⟩
          · have hw : IntKind.u64.wrap (q0 + 1) = 0 := by rw [IntKind.wrap_u64]; omega
            have HFIN : Hid (signedS ((q1 + 1) * 18446744073709551616) false = R) := by rw [← hfin]; congr 1; omega
            clear hfin
            go_enter Try.func47, Try.ntmps47
            go_wp2_with fail
            refine (HSB.out _).mono ?_; rintro e w' ⟨rfl, ⟨n1, rfl⟩⟩
            go_wp2_with fail
            refine (HSA.out _).mono ?_; rintro e w' ⟨rfl, ⟨n2, rfl⟩⟩
            go_wp2_with fail
            refine (HT.out _).mono ?_; rintro e w' ⟨rfl, ⟨n3, rfl⟩⟩
            go_wp2_with fail
            refine (HQ.out _).mono ?_; rintro e w' ⟨rfl, ⟨n4, rfl⟩⟩
            go_wp2_with fail
            refine (rsigned_any _ _ _ _ (by omega) (by unfold U64; omega)).mono ?_; rintro e w' ⟨rfl, ⟨n5, rfl⟩⟩
            go_wp2
            go_ret
            exact ⟨ret_int HFIN.out, by repeat (first | exact Drawn0.refl _ | apply Drawn0.step)⟩
        · have hfin := HDOWN.out (q1 * 18446744073709551616 + q0) r HRI.out (by omega) hra hrb false HM.out (fun h => by rcases h with h | h <;> omega)
          have HFIN := Lib.hid hfin
          clear hfin HM HUP HDOWN
          go_enter Try.func47, Try.ntmps47
          go_wp2_with fail
          refine (HSB.out _).mono ?_; rintro e w' ⟨rfl, ⟨n1, rfl⟩⟩
          go_wp2_with fail
          refine (HSA.out _).mono ?_; rintro e w' ⟨rfl, ⟨n2, rfl⟩⟩
          go_wp2_with fail
          refine (HT.out _).mono ?_; rintro e w' ⟨rfl, ⟨n3, rfl⟩⟩
          go_wp2_with fail
          refine (HQ.out _).mono ?_; rintro e w' ⟨rfl, ⟨n4, rfl⟩⟩
          go_wp2_with fail
          refine (rsigned_any _ _ _ _ (by omega) (by unfold U64; omega)).mono ?_; rintro e w' ⟨rfl, ⟨n5, rfl⟩⟩
          go_wp2
          go_ret
          exact ⟨ret_int HFIN.out, by repeat (first | exact Drawn0.refl _ | apply Drawn0.step)⟩
end Go.Proofs.Yteehnbgkgdhgaaa.Spec
