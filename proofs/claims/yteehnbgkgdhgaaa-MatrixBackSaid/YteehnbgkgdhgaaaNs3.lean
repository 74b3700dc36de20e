/-
  Ratio of package num and of its reference.
-/
import Derived.Test.YteehnbgkgdhgaaaNs2
namespace Go.Proofs.Yteehnbgkgdhgaaa.Spec
open Go.RowKit Go.Proofs.Yteehnbgkgdhgaaa.NM Go.Proofs.YteehnbgkgdhgaaaW.PrintWords Go.Proofs.YteehnbgkgdhgaaaW.PrintLast Go.Proofs.YteehnbgkgdhgaaaW.PrintMore
set_option linter.unusedVariables false

theorem ret_int {k : IntKind} {a b : Int} (h : a = b) : Ending.returned (.int k a) = .returned (.int k b) := by rw [h]
/-- k rounds of doubling on: the quotient q and the rest r of n times 2^k by d -/
def RI (n d : Int) (k : Nat) (q r : Int) : Prop := n * ((2 ^ k : Nat) : Int) = d * q + r
theorem ri_start (n d : Int) : RI n d 0 (n / d) (n % d) := by
  unfold RI
  have := Int.mul_ediv_add_emod n d
  simp; omega
theorem pow_dbl (k : Nat) : ((2 ^ (k + 1) : Nat) : Int) = 2 * ((2 ^ k : Nat) : Int) := by rw [Nat.pow_succ]; omega
theorem ri_low {n d q r : Int} {k : Nat} (h : RI n d k q r) : RI n d (k + 1) (2 * q) (2 * r) := by
  unfold RI at *; rw [pow_dbl]; grind
theorem ri_high {n d q r : Int} {k : Nat} (h : RI n d k q r) : RI n d (k + 1) (2 * q + 1) (2 * r - d) := by
  unfold RI at *; rw [pow_dbl]; grind
theorem ri_early {a b q r : Int} {k : Nat} (h : RI (mag a) (mag b) k q r) (hk : k ≤ 16) (hb : b ≠ 0) (hq : 9223372036854775808 ≤ q) (h0 : 0 ≤ r) (h1 : r < mag b) : signedS q (minusB a b) = ratioS a b := by
  unfold RI at h
  have hp : ((2 ^ k : Nat) : Int) * ((2 ^ (16 - k) : Nat) : Int) = 65536 := by
    rw [← Int.natCast_mul, ← Nat.pow_add, show k + (16 - k) = 16 from by omega]; rfl
  have hP : 1 ≤ ((2 ^ (16 - k) : Nat) : Int) := by have : 0 < 2 ^ (16 - k) := Nat.pow_pos (by omega); omega
  generalize ((2 ^ (16 - k) : Nat) : Int) = P at *
  have hd : 0 < mag b := by omega
  have e : mag a * 65536 = mag b * (q * P + r * P / mag b) + r * P % mag b := by
    have e1 := Int.mul_ediv_add_emod (r * P) (mag b)
    rw [← hp, ← Int.mul_assoc, h]
    grind
  have hm0 := Int.emod_nonneg (r * P) (show mag b ≠ 0 by omega)
  have hm1 := Int.emod_lt_of_pos (r * P) hd
  have hrP : 0 ≤ r * P / mag b := Int.ediv_nonneg (Int.mul_nonneg h0 (by omega)) (by omega)
  have hqP : q ≤ q * P := by
    have : q * 1 ≤ q * P := Int.mul_le_mul_of_nonneg_left hP (by omega)
    omega
  rw [ratioS_mag hb e hm0 hm1, signedS_sat _ (by omega)]
  unfold sat
  split <;> split <;> omega
theorem ri_up {a b q r : Int} (h : RI (mag a) (mag b) 16 q r) (hb : b ≠ 0) (hq : 0 ≤ q) (h0 : 0 ≤ r) (h1 : r < mag b) (m : Bool) (hm : minusB a b = m) (hu : mag b - r < r ∨ (r = mag b - r ∧ m = false)) : signedS (q + 1) m = ratioS a b := by
  subst hm
  rw [ratioS_mag hb (q := q) (r := r) (by unfold RI at h; exact h) h0 h1, signedS_sat _ (by omega)]
  congr 1
  split
  · rename_i hm
    rw [if_pos]
    rcases hu with hu | ⟨_, hu⟩
    · exact hu
    · simp [hm] at hu
  · rw [if_pos (by omega)]
theorem ri_down {a b q r : Int} (h : RI (mag a) (mag b) 16 q r) (hb : b ≠ 0) (hq : 0 ≤ q) (h0 : 0 ≤ r) (h1 : r < mag b) (m : Bool) (hm : minusB a b = m) (hu : ¬ (mag b - r < r ∨ (r = mag b - r ∧ m = false))) : signedS q m = ratioS a b := by
  subst hm
  rw [ratioS_mag hb (q := q) (r := r) (by unfold RI at h; exact h) h0 h1, signedS_sat _ (by omega)]
  congr 1
  split
  · rw [if_neg (by omega)]
  · rename_i hm
    rw [if_neg]
    intro hle
    exact hu (by
      by_cases hx : mag b - r < r
      · exact .inl hx
      · exact .inr ⟨by omega, by simpa using hm⟩)
theorem signedS_top (m : Bool) : signedS (18446744073709551615 + 1) m = signedS 18446744073709551615 m := by cases m <;> rfl

set_option maxHeartbeats 1000000 in
theorem ratio_any (a b : Int) (w : World) (ha : I64 a) (hb : I64 b) :
    Calls Try.prog 46 #[.int .i64 a, .int .i64 b] w fun e w' => e = .returned (.int .i64 (ratioS a b)) ∧ Drawn0 w w' := by
  by_cases hz : b = 0
  · subst hz
    have : ratioS a 0 = 0 := by unfold ratioS; simp
    rw [this]
    go_enter Try.func46, Try.ntmps46
    go_wp2
    go_ret
    exact ⟨rfl, Drawn0.refl _⟩
  · have hc0 : (b == 0) = false := by simpa using hz
    have hsa := fun w => size_any a w ha
    have hsb := fun w => size_any b w hb
    have hn0 := mag_nonneg a
    have hn1 := mag_le ha.1 ha.2
    have hd1 := mag_le hb.1 hb.2
    have hd0 : 1 ≤ mag b := by unfold mag; split <;> omega
    have hst := ri_start (mag a) (mag b)
    have hup := fun (q r : Int) (h : RI (mag a) (mag b) 16 q r) => ri_up h hz
    have hdown := fun (q r : Int) (h : RI (mag a) (mag b) 16 q r) => ri_down h hz
    have hearly := fun (k : Nat) (q r : Int) (h : RI (mag a) (mag b) k q r) (hk : k ≤ 16) => ri_early h hk hz
    generalize mag a = n at *
    generalize mag b = d at *
    generalize ratioS a b = R at *
    have hq0 : 0 ≤ n / d := Int.ediv_nonneg hn0 (by omega)
    have hq1 : n / d ≤ n := Int.ediv_le_self _ hn0
    have hr0 : 0 ≤ n % d := Int.emod_nonneg _ (by omega)
    have hr1 : n % d < d := Int.emod_lt_of_pos _ (by omega)
    have HSA := Lib.hid hsa
    have HSB := Lib.hid hsb
    have HST := Lib.hid hst
    have HUP := Lib.hid hup
    have HDOWN := Lib.hid hdown
    have HEARLY := Lib.hid hearly
    clear hsa hsb hst hup hdown hearly
    unfold I64 at ha hb
    obtain ⟨ha1, ha2⟩ := ha
    obtain ⟨hb1, hb2⟩ := hb
    by_cases hna : a < 0
    · by_cases hnb : b < 0
      · have hmB : minusB a b = false := by simp [minusB, hna, hnb]
        rw [hmB] at HEARLY
        have HM := Lib.hid hmB
        clear hmB
        go_enter Try.func46, Try.ntmps46
        go_wp2_with fail
        refine (HSA.out _).mono ?_; rintro e w' ⟨rfl, ⟨n1, rfl⟩⟩
        go_wp2_with fail
        refine (HSB.out _).mono ?_; rintro e w' ⟨rfl, ⟨n2, rfl⟩⟩
        go_wp2_with fail
        go_quiet (fail)
        go_wp2_with fail
        go_loop [4, 8, 9, 27] (fun _ v8 v9 v27 => ∃ (k : Nat) (q r : Int), k ≤ 16 ∧ v8 = .int .u64 q ∧ v9 = .int .u64 r ∧ v27 = .int .i64 k ∧ 0 ≤ q ∧ q < 18446744073709551616 ∧ 0 ≤ r ∧ r < d ∧ Hid (RI n d k q r)) (fun _ _ _ i => 16 - (intOf i).toNat)
        case atStart => exact ⟨0, n / d, n % d, by omega, rfl, rfl, rfl, hq0, by omega, hr0, hr1, HST.out⟩
        case round =>
          obtain ⟨k, q, r, hk, rfl, rfl, rfl, hqa, hqb, hra, hrb, hri⟩ := hrel
          clear hq0 hq1 hr0 hr1 HST HSA HSB hna hnb
          by_cases hk16 : k < 16
          · by_cases hbig : 9223372036854775807 < q
            · have hfin := HEARLY.out k q r hri.out hk (by omega) hra hrb
              have HFIN := Lib.hid hfin
              clear hfin
              go_wp2_with fail
              refine (signed_any _ _ _ ⟨hqa, hqb⟩).mono ?_; rintro e w' ⟨rfl, ⟨n4, rfl⟩⟩
              go_wp2
              go_ret
              exact ⟨ret_int HFIN.out, by repeat (first | exact Drawn0.refl _ | apply Drawn0.step)⟩
            · by_cases hge : d ≤ 2 * r
              · have hri' : Hid (RI n d (k + 1) (2 * q + 1) (2 * r - d)) := ri_high hri.out
                go_wp2
                go_round
                case rel => exact ⟨_, .int .u64 (2 * q + 1), .int .u64 (2 * r - d), .int .i64 ((k + 1 : Nat) : Int), ⟨k + 1, by omega, 2 * q + 1, rfl, 2 * r - d, rfl, rfl, by omega, by omega, by omega, by omega, hri'⟩, rfl, rfl, rfl, by go_num⟩
                case measure => simp [intOf]; omega
              · have hri' : Hid (RI n d (k + 1) (2 * q) (2 * r)) := ri_low hri.out
                go_wp2
                go_round
                case rel => exact ⟨_, .int .u64 (2 * q), .int .u64 (2 * r), .int .i64 ((k + 1 : Nat) : Int), ⟨k + 1, by omega, 2 * q, rfl, 2 * r, rfl, rfl, by omega, by omega, by omega, by omega, hri'⟩, rfl, rfl, rfl, by go_num⟩
                case measure => simp [intOf]; omega
          · obtain rfl : k = 16 := by omega
            by_cases hu : d - r ≤ r
            · have hfin := HUP.out q r hri.out hqa hra hrb false HM.out (by by_cases h : d - r < r; exact .inl h; exact .inr ⟨by omega, rfl⟩)
              by_cases htop : q = 18446744073709551615
              · have htopb : (q == 18446744073709551615) = true := by simp [htop]
                rw [htop, signedS_top, ← htop] at hfin
                clear htop
                have HFIN := Lib.hid hfin
                clear hfin HM HUP HDOWN HEARLY
                have hcase : ((r == d - r) = true ∧ r ≤ d - r) ∨ ((r == d - r) = false ∧ d - r < r) := by
                  by_cases h : r = d - r
                  · exact .inl ⟨by simpa using h, by omega⟩
                  · exact .inr ⟨by simpa using h, by omega⟩
                clear hu
                rcases hcase with ⟨hE, hu1⟩ | ⟨hE, hu1⟩
                all_goals go_wp2_with fail
                all_goals (refine (signed_any _ _ _ (by unfold U64; omega)).mono ?_; rintro e w' ⟨rfl, ⟨n4, rfl⟩⟩)
                all_goals go_wp2
                all_goals go_ret
                all_goals exact ⟨ret_int HFIN.out, by repeat (first | exact Drawn0.refl _ | apply Drawn0.step)⟩
              · have HFIN := Lib.hid hfin
                clear hfin HM HUP HDOWN HEARLY
                have hcase : ((r == d - r) = true ∧ r ≤ d - r) ∨ ((r == d - r) = false ∧ d - r < r) := by
                  by_cases h : r = d - r
                  · exact .inl ⟨by simpa using h, by omega⟩
                  · exact .inr ⟨by simpa using h, by omega⟩
                clear hu
                rcases hcase with ⟨hE, hu1⟩ | ⟨hE, hu1⟩
                all_goals go_wp2_with fail
                all_goals (refine (signed_any _ _ _ (by unfold U64; omega)).mono ?_; rintro e w' ⟨rfl, ⟨n4, rfl⟩⟩)
                all_goals go_wp2
                all_goals go_ret
                all_goals exact ⟨ret_int HFIN.out, by repeat (first | exact Drawn0.refl _ | apply Drawn0.step)⟩
            · have hfin := HDOWN.out q r hri.out hqa hra hrb false HM.out (fun h => by rcases h with h | h <;> omega)
              have HFIN := Lib.hid hfin
              clear hfin HM HUP HDOWN HEARLY
              have hu1 : ¬ d - r < r := by omega
              go_wp2_with fail
              (refine (signed_any _ _ _ (by unfold U64; omega)).mono ?_; rintro e w' ⟨rfl, ⟨n4, rfl⟩⟩)
              go_wp2
              go_ret
              exact ⟨ret_int HFIN.out, by repeat (first | exact Drawn0.refl _ | apply Drawn0.step)⟩
      · have hmB : minusB a b = true := by simp [minusB, hna, hnb]
        rw [hmB] at HEARLY
        have HM := Lib.hid hmB
        clear hmB
        go_enter Try.func46, Try.ntmps46
        go_wp2_with fail
        refine (HSA.out _).mono ?_; rintro e w' ⟨rfl, ⟨n1, rfl⟩⟩
        go_wp2_with fail
        refine (HSB.out _).mono ?_; rintro e w' ⟨rfl, ⟨n2, rfl⟩⟩
        go_wp2_with fail
        go_quiet (fail)
        go_wp2_with fail
        go_loop [4, 8, 9, 27] (fun _ v8 v9 v27 => ∃ (k : Nat) (q r : Int), k ≤ 16 ∧ v8 = .int .u64 q ∧ v9 = .int .u64 r ∧ v27 = .int .i64 k ∧ 0 ≤ q ∧ q < 18446744073709551616 ∧ 0 ≤ r ∧ r < d ∧ Hid (RI n d k q r)) (fun _ _ _ i => 16 - (intOf i).toNat)
        case atStart => exact ⟨0, n / d, n % d, by omega, rfl, rfl, rfl, hq0, by omega, hr0, hr1, HST.out⟩
        case round =>
          obtain ⟨k, q, r, hk, rfl, rfl, rfl, hqa, hqb, hra, hrb, hri⟩ := hrel
          clear hq0 hq1 hr0 hr1 HST HSA HSB hna hnb
          by_cases hk16 : k < 16
          · by_cases hbig : 9223372036854775807 < q
            · have hfin := HEARLY.out k q r hri.out hk (by omega) hra hrb
              have HFIN := Lib.hid hfin
              clear hfin
              go_wp2_with fail
              refine (signed_any _ _ _ ⟨hqa, hqb⟩).mono ?_; rintro e w' ⟨rfl, ⟨n4, rfl⟩⟩
              go_wp2
              go_ret
              exact ⟨ret_int HFIN.out, by repeat (first | exact Drawn0.refl _ | apply Drawn0.step)⟩
            · by_cases hge : d ≤ 2 * r
              · have hri' : Hid (RI n d (k + 1) (2 * q + 1) (2 * r - d)) := ri_high hri.out
                go_wp2
                go_round
                case rel => exact ⟨_, .int .u64 (2 * q + 1), .int .u64 (2 * r - d), .int .i64 ((k + 1 : Nat) : Int), ⟨k + 1, by omega, 2 * q + 1, rfl, 2 * r - d, rfl, rfl, by omega, by omega, by omega, by omega, hri'⟩, rfl, rfl, rfl, by go_num⟩
                case measure => simp [intOf]; omega
              · have hri' : Hid (RI n d (k + 1) (2 * q) (2 * r)) := ri_low hri.out
                go_wp2
                go_round
                case rel => exact ⟨_, .int .u64 (2 * q), .int .u64 (2 * r), .int .i64 ((k + 1 : Nat) : Int), ⟨k + 1, by omega, 2 * q, rfl, 2 * r, rfl, rfl, by omega, by omega, by omega, by omega, hri'⟩, rfl, rfl, rfl, by go_num⟩
                case measure => simp [intOf]; omega
          · obtain rfl : k = 16 := by omega
            by_cases hu : d - r < r
            · have hfin := HUP.out q r hri.out hqa hra hrb true HM.out (.inl hu)
              by_cases htop : q = 18446744073709551615
              · have htopb : (q == 18446744073709551615) = true := by simp [htop]
                rw [htop, signedS_top, ← htop] at hfin
                clear htop
                have HFIN := Lib.hid hfin
                clear hfin HM HUP HDOWN HEARLY
                go_wp2_with fail
                (refine (signed_any _ _ _ (by unfold U64; omega)).mono ?_; rintro e w' ⟨rfl, ⟨n4, rfl⟩⟩)
                go_wp2
                go_ret
                exact ⟨ret_int HFIN.out, by repeat (first | exact Drawn0.refl _ | apply Drawn0.step)⟩
              · have HFIN := Lib.hid hfin
                clear hfin HM HUP HDOWN HEARLY
                go_wp2_with fail
                (refine (signed_any _ _ _ (by unfold U64; omega)).mono ?_; rintro e w' ⟨rfl, ⟨n4, rfl⟩⟩)
                go_wp2
                go_ret
                exact ⟨ret_int HFIN.out, by repeat (first | exact Drawn0.refl _ | apply Drawn0.step)⟩
            · have hfin := HDOWN.out q r hri.out hqa hra hrb true HM.out (fun h => h.elim hu fun h => by simp at h)
              have HFIN := Lib.hid hfin
              clear hfin HM HUP HDOWN HEARLY
              have hcase : ((r == d - r) = true ∧ r ≤ d - r) ∨ ((r == d - r) = false ∧ r < d - r) := by
                by_cases h : r = d - r
                · exact .inl ⟨by simpa using h, by omega⟩
                · exact .inr ⟨by simpa using h, by omega⟩
              clear hu
              rcases hcase with ⟨hE, hu1⟩ | ⟨hE, hu1⟩
              all_goals go_wp2_with fail
              all_goals (refine (signed_any _ _ _ (by unfold U64; omega)).mono ?_; rintro e w' ⟨rfl, ⟨n4, rfl⟩⟩)
              all_goals go_wp2
              all_goals go_ret
              all_goals exact ⟨ret_int HFIN.out, by repeat (first | exact Drawn0.refl _ | apply Drawn0.step)⟩
    · by_cases hnb : b < 0
      · have hmB : minusB a b = true := by simp [minusB, hna, hnb]
        rw [hmB] at HEARLY
        have HM := Lib.hid hmB
        clear hmB
        go_enter Try.func46, Try.ntmps46
        go_wp2_with fail
        refine (HSA.out _).mono ?_; rintro e w' ⟨rfl, ⟨n1, rfl⟩⟩
        go_wp2_with fail
        refine (HSB.out _).mono ?_; rintro e w' ⟨rfl, ⟨n2, rfl⟩⟩
        go_wp2_with fail
        go_quiet (fail)
        go_wp2_with fail
        go_loop [4, 8, 9, 27] (fun _ v8 v9 v27 => ∃ (k : Nat) (q r : Int), k ≤ 16 ∧ v8 = .int .u64 q ∧ v9 = .int .u64 r ∧ v27 = .int .i64 k ∧ 0 ≤ q ∧ q < 18446744073709551616 ∧ 0 ≤ r ∧ r < d ∧ Hid (RI n d k q r)) (fun _ _ _ i => 16 - (intOf i).toNat)
        case atStart => exact ⟨0, n / d, n % d, by omega, rfl, rfl, rfl, hq0, by omega, hr0, hr1, HST.out⟩
        case round =>
          obtain ⟨k, q, r, hk, rfl, rfl, rfl, hqa, hqb, hra, hrb, hri⟩ := hrel
          clear hq0 hq1 hr0 hr1 HST HSA HSB hna hnb
          by_cases hk16 : k < 16
          · by_cases hbig : 9223372036854775807 < q
            · have hfin := HEARLY.out k q r hri.out hk (by omega) hra hrb
              have HFIN := Lib.hid hfin
              clear hfin
              go_wp2_with fail
              refine (signed_any _ _ _ ⟨hqa, hqb⟩).mono ?_; rintro e w' ⟨rfl, ⟨n4, rfl⟩⟩
              go_wp2
              go_ret
              exact ⟨ret_int HFIN.out, by repeat (first | exact Drawn0.refl _ | apply Drawn0.step)⟩
            · by_cases hge : d ≤ 2 * r
              · have hri' : Hid (RI n d (k + 1) (2 * q + 1) (2 * r - d)) := ri_high hri.out
                go_wp2
                go_round
                case rel => exact ⟨_, .int .u64 (2 * q + 1), .int .u64 (2 * r - d), .int .i64 ((k + 1 : Nat) : Int), ⟨k + 1, by omega, 2 * q + 1, rfl, 2 * r - d, rfl, rfl, by omega, by omega, by omega, by omega, hri'⟩, rfl, rfl, rfl, by go_num⟩
                case measure => simp [intOf]; omega
              · have hri' : Hid (RI n d (k + 1) (2 * q) (2 * r)) := ri_low hri.out
                go_wp2
                go_round
                case rel => exact ⟨_, .int .u64 (2 * q), .int .u64 (2 * r), .int .i64 ((k + 1 : Nat) : Int), ⟨k + 1, by omega, 2 * q, rfl, 2 * r, rfl, rfl, by omega, by omega, by omega, by omega, hri'⟩, rfl, rfl, rfl, by go_num⟩
                case measure => simp [intOf]; omega
          · obtain rfl : k = 16 := by omega
            by_cases hu : d - r < r
            · have hfin := HUP.out q r hri.out hqa hra hrb true HM.out (.inl hu)
              by_cases htop : q = 18446744073709551615
              · have htopb : (q == 18446744073709551615) = true := by simp [htop]
                rw [htop, signedS_top, ← htop] at hfin
                clear htop
                have HFIN := Lib.hid hfin
                clear hfin HM HUP HDOWN HEARLY
                go_wp2_with fail
                (refine (signed_any _ _ _ (by unfold U64; omega)).mono ?_; rintro e w' ⟨rfl, ⟨n4, rfl⟩⟩)
                go_wp2
                go_ret
                exact ⟨ret_int HFIN.out, by repeat (first | exact Drawn0.refl _ | apply Drawn0.step)⟩
              · have HFIN := Lib.hid hfin
                clear hfin HM HUP HDOWN HEARLY
                go_wp2_with fail
                (refine (signed_any _ _ _ (by unfold U64; omega)).mono ?_; rintro e w' ⟨rfl, ⟨n4, rfl⟩⟩)
                go_wp2
                go_ret
                exact ⟨ret_int HFIN.out, by repeat (first | exact Drawn0.refl _ | apply Drawn0.step)⟩
            · have hfin := HDOWN.out q r hri.out hqa hra hrb true HM.out (fun h => h.elim hu fun h => by simp at h)
              have HFIN := Lib.hid hfin
              clear hfin HM HUP HDOWN HEARLY
              have hcase : ((r == d - r) = true ∧ r ≤ d - r) ∨ ((r == d - r) = false ∧ r < d - r) := by
                by_cases h : r = d - r
                · exact .inl ⟨by simpa using h, by omega⟩
                · exact .inr ⟨by simpa using h, by omega⟩
              clear hu
              rcases hcase with ⟨hE, hu1⟩ | ⟨hE, hu1⟩
              all_goals go_wp2_with fail
              all_goals (refine (signed_any _ _ _ (by unfold U64; omega)).mono ?_; rintro e w' ⟨rfl, ⟨n4, rfl⟩⟩)
              all_goals go_wp2
              all_goals go_ret
              all_goals exact ⟨ret_int HFIN.out, by repeat (first | exact Drawn0.refl _ | apply Drawn0.step)⟩
      · have hmB : minusB a b = false := by simp [minusB, hna, hnb]
        rw [hmB] at HEARLY
        have HM := Lib.hid hmB
        clear hmB
        go_enter Try.func46, Try.ntmps46
        go_wp2_with fail
        refine (HSA.out _).mono ?_; rintro e w' ⟨rfl, ⟨n1, rfl⟩⟩
        go_wp2_with fail
        refine (HSB.out _).mono ?_; rintro e w' ⟨rfl, ⟨n2, rfl⟩⟩
        go_wp2_with fail
        go_quiet (fail)
        go_wp2_with fail
        go_loop [4, 8, 9, 27] (fun _ v8 v9 v27 => ∃ (k : Nat) (q r : Int), k ≤ 16 ∧ v8 = .int .u64 q ∧ v9 = .int .u64 r ∧ v27 = .int .i64 k ∧ 0 ≤ q ∧ q < 18446744073709551616 ∧ 0 ≤ r ∧ r < d ∧ Hid (RI n d k q r)) (fun _ _ _ i => 16 - (intOf i).toNat)
        case atStart => exact ⟨0, n / d, n % d, by omega, rfl, rfl, rfl, hq0, by omega, hr0, hr1, HST.out⟩
        case round =>
          obtain ⟨k, q, r, hk, rfl, rfl, rfl, hqa, hqb, hra, hrb, hri⟩ := hrel
          clear hq0 hq1 hr0 hr1 HST HSA HSB hna hnb
          by_cases hk16 : k < 16
          · by_cases hbig : 9223372036854775807 < q
            · have hfin := HEARLY.out k q r hri.out hk (by omega) hra hrb
              have HFIN := Lib.hid hfin
              clear hfin
              go_wp2_with fail
              refine (signed_any _ _ _ ⟨hqa, hqb⟩).mono ?_; rintro e w' ⟨rfl, ⟨n4, rfl⟩⟩
              go_wp2
              go_ret
              exact ⟨ret_int HFIN.out, by repeat (first | exact Drawn0.refl _ | apply Drawn0.step)⟩
            · by_cases hge : d ≤ 2 * r
              · have hri' : Hid (RI n d (k + 1) (2 * q + 1) (2 * r - d)) := ri_high hri.out
                go_wp2
                go_round
                case rel => exact ⟨_, .int .u64 (2 * q + 1), .int .u64 (2 * r - d), .int .i64 ((k + 1 : Nat) : Int), ⟨k + 1, by omega, 2 * q + 1, rfl, 2 * r - d, rfl, rfl, by omega, by omega, by omega, by omega, hri'⟩, rfl, rfl, rfl, by go_num⟩
                case measure => simp [intOf]; omega
              · have hri' : Hid (RI n d (k + 1) (2 * q) (2 * r)) := ri_low hri.out
                go_wp2
                go_round
                case rel => exact ⟨_, .int .u64 (2 * q), .int .u64 (2 * r), .int .i64 ((k + 1 : Nat) : Int), ⟨k + 1, by omega, 2 * q, rfl, 2 * r, rfl, rfl, by omega, by omega, by omega, by omega, hri'⟩, rfl, rfl, rfl, by go_num⟩
                case measure => simp [intOf]; omega
          · obtain rfl : k = 16 := by omega
            by_cases hu : d - r ≤ r
            · have hfin := HUP.out q r hri.out hqa hra hrb false HM.out (by by_cases h : d - r < r; exact .inl h; exact .inr ⟨by omega, rfl⟩)
              by_cases htop : q = 18446744073709551615
              · have htopb : (q == 18446744073709551615) = true := by simp [htop]
                rw [htop, signedS_top, ← htop] at hfin
                clear htop
                have HFIN := Lib.hid hfin
                clear hfin HM HUP HDOWN HEARLY
                have hcase : ((r == d - r) = true ∧ r ≤ d - r) ∨ ((r == d - r) = false ∧ d - r < r) := by
                  by_cases h : r = d - r
                  · exact .inl ⟨by simpa using h, by omega⟩
                  · exact .inr ⟨by simpa using h, by omega⟩
                clear hu
                rcases hcase with ⟨hE, hu1⟩ | ⟨hE, hu1⟩
                all_goals go_wp2_with fail
                all_goals (refine (signed_any _ _ _ (by unfold U64; omega)).mono ?_; rintro e w' ⟨rfl, ⟨n4, rfl⟩⟩)
                all_goals go_wp2
                all_goals go_ret
                all_goals exact ⟨ret_int HFIN.out, by repeat (first | exact Drawn0.refl _ | apply Drawn0.step)⟩
              · have HFIN := Lib.hid hfin
                clear hfin HM HUP HDOWN HEARLY
                have hcase : ((r == d - r) = true ∧ r ≤ d - r) ∨ ((r == d - r) = false ∧ d - r < r) := by
                  by_cases h : r = d - r
                  · exact .inl ⟨by simpa using h, by omega⟩
                  · exact .inr ⟨by simpa using h, by omega⟩
                clear hu
                rcases hcase with ⟨hE, hu1⟩ | ⟨hE, hu1⟩
                all_goals go_wp2_with fail
                all_goals (refine (signed_any _ _ _ (by unfold U64; omega)).mono ?_; rintro e w' ⟨rfl, ⟨n4, rfl⟩⟩)
                all_goals go_wp2
                all_goals go_ret
                all_goals exact ⟨ret_int HFIN.out, by repeat (first | exact Drawn0.refl _ | apply Drawn0.step)⟩
            · have hfin := HDOWN.out q r hri.out hqa hra hrb false HM.out (fun h => by rcases h with h | h <;> omega)
              have HFIN := Lib.hid hfin
              clear hfin HM HUP HDOWN HEARLY
              have hu1 : ¬ d - r < r := by omega
              go_wp2_with fail
              (refine (signed_any _ _ _ (by unfold U64; omega)).mono ?_; rintro e w' ⟨rfl, ⟨n4, rfl⟩⟩)
              go_wp2
              go_ret
              exact ⟨ret_int HFIN.out, by repeat (first | exact Drawn0.refl _ | apply Drawn0.step)⟩
end Go.Proofs.Yteehnbgkgdhgaaa.Spec
