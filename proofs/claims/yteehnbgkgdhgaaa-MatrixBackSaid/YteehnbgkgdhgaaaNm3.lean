/-
  Unit values, roots and long division: the printed functions come to the plain arithmetic.
-/
import Derived.Test.YteehnbgkgdhgaaaNm2
namespace Go.Proofs.Yteehnbgkgdhgaaa.NM
open Go.RowKit Go.Proofs.Yteehnbgkgdhgaaa.PNum Go.Proofs.YteehnbgkgdhgaaaW.PrintWords Go.Proofs.YteehnbgkgdhgaaaW.PrintLast Go.Proofs.YteehnbgkgdhgaaaW.PrintMore
set_option linter.unusedVariables false

/-! unit values -/
def unitS (x : Int) : Int := min 65535 (max x 0)
def clampS (x lo hi : Int) : Int := min hi (max x lo)
def mulS (a b : Int) : Int := (2 * (unitS a * unitS b) + 65535) / 131070
def quoS (a b : Int) : Int := if unitS b = 0 then 0 else min 65535 ((2 * (unitS a * 65535) + unitS b) / (2 * unitS b))
def lerpS (a b t : Int) : Int := (2 * (clampS a (-1099511627776) 1099511627776 * (65535 - unitS t) + clampS b (-1099511627776) 1099511627776 * unitS t) + 65535) / 131070

theorem mn_min (a b : Int) : mn a b = min a b := by unfold mn; split <;> omega
theorem mx_max (a b : Int) : mx a b = max a b := by unfold mx; split <;> omega
theorem unitS_range (x : Int) : 0 ≤ unitS x ∧ unitS x ≤ 65535 := by unfold unitS; omega
theorem clampS_range (x : Int) {lo hi : Int} (h : lo ≤ hi) : lo ≤ clampS x lo hi ∧ clampS x lo hi ≤ hi := by unfold clampS; omega

theorem clamp_eq (x lo hi : Int) : num_Clamp.f x lo hi = some (clampS x lo hi) := by unfold num_Clamp.f clampS; rw [mn_min, mx_max]
theorem rclamp_eq (x lo hi : Int) : imageeditorref01_Clamp.f x lo hi = some (clampS x lo hi) := by unfold imageeditorref01_Clamp.f clampS; rw [mn_min, mx_max]
theorem unit_eq (x : Int) : num_unit.f x = some (unitS x) := by unfold num_unit.f unitS; rw [mn_min, mx_max]
theorem runit_eq (x : Int) : imageeditorref01_Unit.f x = some (unitS x) := by unfold imageeditorref01_Unit.f; rw [rclamp_eq]; rfl

theorem unit_mul (a b : Int) (ha : 0 ≤ a ∧ a ≤ 65535) (hb : 0 ≤ b ∧ b ≤ 65535) : 0 ≤ a * b ∧ a * b ≤ 4294836225 := by
  refine ⟨Int.mul_nonneg ha.1 hb.1, ?_⟩
  have : a * b ≤ 65535 * 65535 := Int.mul_le_mul (by omega) (by omega) hb.1 (by omega)
  omega
theorem mul_eq (a b : Int) : num_Mul.f a b = some (mulS a b) := by
  unfold num_Mul.f mulS
  rw [unit_eq, unit_eq]
  simp only [Option.bind_some]
  have h1 := unitS_range a
  have h2 := unitS_range b
  have h := unit_mul _ _ h1 h2
  rw [w64' (x := 2 * unitS a) (by omega) (by omega)]
  have e : 2 * unitS a * unitS b = 2 * (unitS a * unitS b) := by rw [Int.mul_assoc]
  rw [e]
  generalize unitS a * unitS b = n at *
  rw [w64' (x := 2 * n) (by omega) (by omega), w64' (x := 2 * n + 65535) (by omega) (by omega), Int.tdiv_eq_ediv_of_nonneg (by omega), w64' (by omega) (by omega)]
theorem rmul_eq (a b : Int) : ∃ k, imageeditorref01_Mul.f k a b = some (mulS a b) := by
  have h := unit_mul _ _ (unitS_range a) (unitS_range b)
  obtain ⟨k, hk⟩ := rdiv_eq (unitS a * unitS b) 65535 (by unfold I64; omega) (by unfold I64; omega)
  refine ⟨k, ?_⟩
  unfold imageeditorref01_Mul.f mulS
  rw [runit_eq, runit_eq]
  simp only [Option.bind_some]
  rw [w64' (by omega) (by omega), hk]
  simp only [Option.bind_some]
  rw [divS_pos (by omega)]
  rfl
theorem quo_eq (a b : Int) : num_Quo.f a b = some (quoS a b) := by
  unfold num_Quo.f quoS
  rw [unit_eq, unit_eq]
  simp only [Option.bind_some]
  have h1 := unitS_range a
  have h2 := unitS_range b
  by_cases h0 : unitS b = 0
  · rw [if_pos h0, if_pos h0]
  · rw [if_neg h0, if_neg h0]
    rw [w64' (x := 2 * unitS b) (by omega) (by omega), if_neg (by omega), w64' (x := 2 * unitS a) (by omega) (by omega), w64' (x := 2 * unitS a * 65535) (by omega) (by omega),
      w64' (x := 2 * unitS a * 65535 + unitS b) (by omega) (by omega), Int.tdiv_eq_ediv_of_nonneg (by omega), Int.mul_assoc]
    have hd : 0 ≤ (2 * (unitS a * 65535) + unitS b) / (2 * unitS b) := Int.ediv_nonneg (by omega) (by omega)
    have hd2 : (2 * (unitS a * 65535) + unitS b) / (2 * unitS b) ≤ 2 * (unitS a * 65535) + unitS b := Int.ediv_le_self _ (by omega)
    rw [w64' (by omega) (by omega), mn_min]
theorem rquo_eq (a b : Int) : ∃ k, imageeditorref01_Quo.f k a b = some (quoS a b) := by
  have h1 := unitS_range a
  have h2 := unitS_range b
  obtain ⟨k, hk⟩ := rdiv_eq (unitS a * 65535) (unitS b) (by unfold I64; omega) (by unfold I64; omega)
  refine ⟨k, ?_⟩
  unfold imageeditorref01_Quo.f quoS
  rw [runit_eq, runit_eq]
  simp only [Option.bind_some]
  by_cases h0 : unitS b = 0
  · rw [if_pos h0, if_pos h0]
  · rw [if_neg h0, if_neg h0, w64' (by omega) (by omega), hk]
    simp only [Option.bind_some]
    rw [divS_pos (by omega), mn_min]
theorem lerp_bound (a b k : Int) (ha : -1099511627776 ≤ a ∧ a ≤ 1099511627776) (hb : -1099511627776 ≤ b ∧ b ≤ 1099511627776) (hk : 0 ≤ k ∧ k ≤ 65535) :
    (-72056494526300160 ≤ a * (65535 - k) ∧ a * (65535 - k) ≤ 72056494526300160) ∧ (-72056494526300160 ≤ b * k ∧ b * k ≤ 72056494526300160) := by
  have m : ∀ x y : Int, (-1099511627776 ≤ x ∧ x ≤ 1099511627776) → (0 ≤ y ∧ y ≤ 65535) → -72056494526300160 ≤ x * y ∧ x * y ≤ 72056494526300160 := by
    intro x y hx hy
    have h1 := Int.mul_le_mul_of_nonneg_right hx.1 hy.1
    have h2 := Int.mul_le_mul_of_nonneg_right hx.2 hy.1
    omega
  exact ⟨m a _ ha (by omega), m b k hb hk⟩
theorem lerp_eq (a b t : Int) : ∃ k, num_Lerp.f k a b t = some (lerpS a b t) := by
  have h := lerp_bound _ _ _ (clampS_range a (lo := -1099511627776) (hi := 1099511627776) (by omega)) (clampS_range b (lo := -1099511627776) (hi := 1099511627776) (by omega)) (unitS_range t)
  have ht := unitS_range t
  obtain ⟨k, hk⟩ := div_eq (clampS a (-1099511627776) 1099511627776 * (65535 - unitS t) + clampS b (-1099511627776) 1099511627776 * unitS t) 65535 (by unfold I64; omega) (by unfold I64; omega)
  refine ⟨k, ?_⟩
  unfold num_Lerp.f lerpS
  rw [unit_eq, clamp_eq, clamp_eq]
  simp only [Option.bind_some]
  rw [w64' (x := 65535 - unitS t) (by omega) (by omega), w64' (x := _ * (65535 - unitS t)) (by omega) (by omega), w64' (x := _ * unitS t) (by omega) (by omega), w64' (by omega) (by omega), hk]
  simp only [Option.bind_some]
  rw [divS_pos (by omega)]
  rfl
theorem rlerp_eq (a b t : Int) : ∃ k, imageeditorref01_Lerp.f k a b t = some (lerpS a b t) := by
  have h := lerp_bound _ _ _ (clampS_range a (lo := -1099511627776) (hi := 1099511627776) (by omega)) (clampS_range b (lo := -1099511627776) (hi := 1099511627776) (by omega)) (unitS_range t)
  have ht := unitS_range t
  obtain ⟨k, hk⟩ := rdiv_eq (clampS a (-1099511627776) 1099511627776 * (65535 - unitS t) + clampS b (-1099511627776) 1099511627776 * unitS t) 65535 (by unfold I64; omega) (by unfold I64; omega)
  refine ⟨k, ?_⟩
  unfold imageeditorref01_Lerp.f lerpS
  rw [runit_eq, rclamp_eq, rclamp_eq]
  simp only [Option.bind_some]
  rw [w64' (x := 65535 - unitS t) (by omega) (by omega), w64' (x := _ * (65535 - unitS t)) (by omega) (by omega), w64' (x := _ * unitS t) (by omega) (by omega), w64' (by omega) (by omega), hk]
  simp only [Option.bind_some]
  rw [divS_pos (by omega)]
  rfl

/-! a magnitude with a sign -/
theorem signed_eq (n : Int) (hn : U64 n) (m : Bool) : ∃ k, num_signed.f k n m = some (signedS n m) := by
  refine ⟨1, ?_⟩
  unfold U64 at hn
  unfold num_signed.f signedS
  cases m
  · simp only [Bool.false_eq_true, if_false, num_signed.j0]
    split
    · rfl
    · rw [w64' (by omega) (by omega)]
  · simp only [if_true, num_signed.j0]
    by_cases h : n > 9223372036854775807
    · simp only [h, decide_true, if_true]
      rw [if_pos (by omega)]
    · simp only [h, decide_false, Bool.false_eq_true, if_false]
      rw [if_neg (by omega), w64' (x := n) (by omega) (by omega), w64' (by omega) (by omega)]
theorem rsigned_eq (hi lo : Int) (h0 : 0 ≤ hi) (hn : U64 lo) (m : Bool) : ∃ k, imageeditorref01_signed.f k hi lo m = some (signedS (hi * 18446744073709551616 + lo) m) := by
  refine ⟨1, ?_⟩
  unfold U64 at hn
  unfold imageeditorref01_signed.f signedS
  cases m
  · simp only [Bool.false_eq_true, if_false]
    by_cases h : hi > 0
    · rw [if_pos h, if_pos (by omega)]
    · rw [if_neg h]
      have : hi = 0 := by omega
      subst this
      split
      · rw [if_pos (by omega)]
      · rw [if_neg (by omega), w64' (by omega) (by omega)]; congr 1; omega
  · simp only [if_true]
    by_cases h : hi > 0
    · rw [if_pos h, if_pos (by omega)]; simp [imageeditorref01_signed.j0]
    · rw [if_neg h]
      have : hi = 0 := by omega
      subst this
      simp only [imageeditorref01_signed.j0]
      by_cases h2 : lo > 9223372036854775808
      · simp only [h2, decide_true, if_true]
        rw [if_pos (by omega)]
      · simp only [h2, decide_false, Bool.false_eq_true, if_false]
        rw [IntKind.wrap_u64]
        split
        · congr 1; unfold wrap64; omega
        · congr 1; unfold wrap64; omega

/-! roots -/
theorem cmp128 (t x0 x1 : Int) (h1 : 0 ≤ x1 ∧ x1 < 18446744073709551616) :
    (t / 18446744073709551616 < x0 ∨ (t / 18446744073709551616 = x0 ∧ t % 18446744073709551616 ≤ x1)) ↔ t ≤ x0 * 18446744073709551616 + x1 := by omega
theorem or_bit (r j : Nat) (hr : r % 2 ^ (j + 1) = 0) (hj : 2 ^ (j + 1) ≤ 18446744073709551616) (hb : r + 2 ^ (j + 1) ≤ 18446744073709551616) : Go.bits .or .u64 (r : Int) ((2 ^ j : Nat) : Int) = ((r + 2 ^ j : Nat) : Int) := by
  have e : 2 ^ (j + 1) = 2 ^ j + 2 ^ j := by rw [Nat.pow_succ]; omega
  have hp : 0 < 2 ^ j := Nat.pow_pos (by omega)
  rw [or_hi _ _ (j + 1) (by omega) (by omega) (by omega) (by omega) (by omega) (by omega)]
  omega
theorem pow_half (j : Nat) : ((2 ^ (j + 1) : Nat) : Int) / 2 = ((2 ^ j : Nat) : Int) := by
  have e : 2 ^ (j + 1) = 2 ^ j + 2 ^ j := by rw [Nat.pow_succ]; omega
  omega
theorem mod_half (r j : Nat) (h : r % 2 ^ (j + 1) = 0) : r % 2 ^ j = 0 := by
  have e : 2 ^ (j + 1) = 2 ^ j * 2 := Nat.pow_succ ..
  rw [e] at h
  exact Nat.mod_eq_zero_of_dvd (Nat.dvd_trans ⟨2, rfl⟩ (Nat.dvd_of_mod_eq_zero h))
theorem mod_half' (r j : Nat) (h : r % 2 ^ (j + 1) = 0) : (r + 2 ^ j) % 2 ^ j = 0 := by
  rw [Nat.add_mod_right]; exact mod_half r j h

theorem sq_u64 (t : Nat) (ht : t < 18446744073709551616) : U64 (t : Int) := by unfold U64; omega

theorem root_l0 (x0 x1 : Int) (h1 : 0 ≤ x1 ∧ x1 < 18446744073709551616) (h0 : 0 ≤ x0) : ∀ (j r k : Nat), r % 2 ^ (j + 1) = 0 → r + 2 ^ (j + 1) ≤ 9223372036854775808 → j + 2 ≤ k →
    num_root.l0 k x0 x1 (r : Int) ((2 ^ j : Nat) : Int) = some ((rootBits (x0 * 18446744073709551616 + x1).toNat (j + 1) r : Nat) : Int) := by
  have hN : ((x0 * 18446744073709551616 + x1).toNat : Int) = x0 * 18446744073709551616 + x1 := Int.toNat_of_nonneg (by omega)
  generalize hM : (x0 * 18446744073709551616 + x1).toNat = M at *
  intro j
  induction j with
  | zero =>
    intro r k hr hb hk
    obtain ⟨k, rfl⟩ : ∃ m, k = m + 1 := ⟨k - 1, by omega⟩
    obtain ⟨k, rfl⟩ : ∃ m, k = m + 1 := ⟨k - 1, by omega⟩
    have ho := or_bit r 0 hr (by omega) (by omega)
    simp only [Nat.pow_zero] at ho ⊢
    have htt := times_eq ((r + 1 : Nat) : Int) ((r + 1 : Nat) : Int) (sq_u64 _ (by omega)) (sq_u64 _ (by omega))
    have hcmp := cmp128 (((r + 1 : Nat) : Int) * ((r + 1 : Nat) : Int)) x0 x1 h1
    rw [← hN] at hcmp
    have hr0 : num_root.l0 (k + 1) x0 x1 (r : Int) 0 = some (r : Int) := by simp only [num_root.l0]; rw [if_neg (by omega), w64' (by omega) (by omega)]
    have hr1 : num_root.l0 (k + 1) x0 x1 ((r + 1 : Nat) : Int) 0 = some ((r + 1 : Nat) : Int) := by simp only [num_root.l0]; rw [if_neg (by omega), w64' (by omega) (by omega)]
    rw [num_root.l0, if_pos (by omega), ho, htt]
    simp only [Option.bind_some, rootBits, Nat.pow_zero]
    rw [show ((1 : Nat) : Int) / 2 = 0 from by decide]
    rw [hr0, hr1]
    by_cases hle : (r + 1) * (r + 1) ≤ M
    · rw [if_pos hle]
      have : ((r + 1 : Nat) : Int) * ((r + 1 : Nat) : Int) ≤ (M : Int) := by rw [← Int.natCast_mul]; omega
      rcases hcmp.mpr this with h | ⟨h, h'⟩
      · rw [if_pos h]
      · rw [if_neg (by omega), if_pos h, if_pos h']
    · rw [if_neg hle]
      have : ¬ ((r + 1 : Nat) : Int) * ((r + 1 : Nat) : Int) ≤ (M : Int) := by rw [← Int.natCast_mul]; omega
      have hn := fun h => this (hcmp.mp h)
      rw [if_neg (fun h => hn (.inl h))]
      split
      · rename_i h
        rw [if_neg (fun h' => hn (.inr ⟨h, h'⟩))]
      · rfl
  | succ j ih =>
    intro r k hr hb hk
    obtain ⟨k, rfl⟩ : ∃ m, k = m + 1 := ⟨k - 1, by omega⟩
    have e1 : 2 ^ (j + 1 + 1) = 2 ^ (j + 1) + 2 ^ (j + 1) := by rw [Nat.pow_succ]; omega
    have hp : 0 < 2 ^ (j + 1) := Nat.pow_pos (by omega)
    have ho := or_bit r (j + 1) hr (by omega) (by omega)
    have htt := times_eq ((r + 2 ^ (j + 1) : Nat) : Int) ((r + 2 ^ (j + 1) : Nat) : Int) (sq_u64 _ (by omega)) (sq_u64 _ (by omega))
    have hcmp := cmp128 (((r + 2 ^ (j + 1) : Nat) : Int) * ((r + 2 ^ (j + 1) : Nat) : Int)) x0 x1 h1
    rw [← hN] at hcmp
    rw [num_root.l0, if_pos (by omega), ho, htt, pow_half]
    simp only [Option.bind_some]
    rw [ih r k (mod_half _ _ hr) (by omega) (by omega), ih (r + 2 ^ (j + 1)) k (mod_half' _ _ hr) (by omega) (by omega)]
    rw [rootBits.eq_2 M r (j + 1)]
    by_cases hle : (r + 2 ^ (j + 1)) * (r + 2 ^ (j + 1)) ≤ M
    · rw [if_pos hle]
      have : ((r + 2 ^ (j + 1) : Nat) : Int) * ((r + 2 ^ (j + 1) : Nat) : Int) ≤ (M : Int) := by rw [← Int.natCast_mul]; omega
      rcases hcmp.mpr this with h | ⟨h, h'⟩
      · rw [if_pos h]
      · rw [if_neg (by omega), if_pos h, if_pos h']
    · rw [if_neg hle]
      have : ¬ ((r + 2 ^ (j + 1) : Nat) : Int) * ((r + 2 ^ (j + 1) : Nat) : Int) ≤ (M : Int) := by rw [← Int.natCast_mul]; omega
      have hn := fun h => this (hcmp.mp h)
      rw [if_neg (fun h => hn (.inl h))]
      split
      · rename_i h
        rw [if_neg (fun h' => hn (.inr ⟨h, h'⟩))]
      · rfl

theorem root_eq (x0 x1 : Int) (h0 : 0 ≤ x0) (h1 : U64 x1) : ∃ k, num_root.f k x0 x1 = some ((rootN (x0 * 18446744073709551616 + x1).toNat : Nat) : Int) :=
  ⟨64, by unfold num_root.f rootN; exact root_l0 x0 x1 h1 h0 62 0 64 (by omega) (by omega) (by omega)⟩

def sqrtS (n : Int) : Int := (rootN n.toNat : Nat)
def hypotS (x y : Int) : Int := (rootN (x * x + y * y).toNat : Nat)

theorem rootN_zero : rootN 0 = 0 := rootN_unique (by omega) (by omega) (.inr (by omega))
theorem sqrt_eq (n : Int) (hn : I64 n) : ∃ k, num_Sqrt.f k n = some (sqrtS n) := by
  unfold I64 at hn
  by_cases h : n ≤ 0
  · refine ⟨0, ?_⟩
    unfold num_Sqrt.f sqrtS
    rw [if_pos h, show n.toNat = 0 from by omega, rootN_zero]; rfl
  · obtain ⟨k, hk⟩ := root_eq 0 n (by omega) (by unfold U64; omega)
    refine ⟨k, ?_⟩
    unfold num_Sqrt.f sqrtS
    rw [if_neg h, wu (by omega) (by omega), hk]
    simp

theorem mag_sq (x : Int) : mag x * mag x = x * x := by unfold mag; split <;> first | exact Int.neg_mul_neg x x | rfl
theorem mag_u64 {x : Int} (h : I64 x) : U64 (mag x) := by unfold I64 at h; unfold U64 mag; split <;> omega
theorem sq_bound {x : Int} (h : I64 x) : 0 ≤ x * x ∧ x * x ≤ 85070591730234615865843651857942052864 := by
  have h1 := mag_le h.1 h.2
  have h0 := mag_nonneg x
  rw [← mag_sq x]
  refine ⟨Int.mul_nonneg h0 h0, ?_⟩
  have : mag x * mag x ≤ 9223372036854775808 * 9223372036854775808 := Int.mul_le_mul h1 h1 h0 (by omega)
  omega
theorem sum128 (A B : Int) (hA : 0 ≤ A ∧ A ≤ 85070591730234615865843651857942052864) (hB : 0 ≤ B ∧ B ≤ 85070591730234615865843651857942052864) :
    ∃ hi lo, 0 ≤ hi ∧ hi < 18446744073709551616 ∧ U64 lo ∧ lo = IntKind.u64.wrap (A % 18446744073709551616 + B % 18446744073709551616) ∧ A + B = hi * 18446744073709551616 + lo ∧
      (lo < A % 18446744073709551616 → hi = IntKind.u64.wrap (IntKind.u64.wrap (A / 18446744073709551616 + B / 18446744073709551616) + 1)) ∧
      (¬ lo < A % 18446744073709551616 → hi = IntKind.u64.wrap (A / 18446744073709551616 + B / 18446744073709551616)) := by
  refine ⟨(A + B) / 18446744073709551616, (A + B) % 18446744073709551616, by omega, by omega, ⟨by omega, by omega⟩, by rw [IntKind.wrap_u64]; omega, by omega, ?_, ?_⟩
  · intro h; rw [wu (x := A / 18446744073709551616 + B / 18446744073709551616) (by omega) (by omega), wu (by omega) (by omega)]; omega
  · intro h; rw [wu (x := A / 18446744073709551616 + B / 18446744073709551616) (by omega) (by omega)]; omega

theorem hypot_eq (x y : Int) (hx : I64 x) (hy : I64 y) : ∃ k, num_Hypot.f k x y = some (hypotS x y) := by
  have ux := mag_u64 hx
  have uy := mag_u64 hy
  obtain ⟨hi, lo, h0, h0', hlo, elo, esum, e1, e2⟩ := sum128 (x * x) (y * y) (sq_bound hx) (sq_bound hy)
  obtain ⟨k, hk⟩ := root_eq hi lo h0 hlo
  refine ⟨k, ?_⟩
  unfold num_Hypot.f hypotS
  rw [size_eq x hx, size_eq y hy]
  simp only [Option.bind_some]
  rw [times_eq _ _ ux ux, times_eq _ _ uy uy, mag_sq, mag_sq]
  simp only [Option.bind_some]
  rw [← elo]
  split
  · rename_i h
    rw [← e1 h, hk, esum]; rfl
  · rename_i h
    rw [← e2 h, hk, esum]; rfl

theorem rsqrt_l0 (n : Int) (h0 : 0 ≤ n) (h1 : n ≤ 9223372036854775807) : ∀ (j r k : Nat), r % 2 ^ (j + 1) = 0 → r + 2 ^ (j + 1) ≤ 4294967296 → j + 2 ≤ k →
    imageeditorref01_Sqrt.l0 k n (r : Int) ((2 ^ j : Nat) : Int) = some ((rootBits n.toNat (j + 1) r : Nat) : Int) := by
  have hN : (n.toNat : Int) = n := Int.toNat_of_nonneg h0
  generalize hM : n.toNat = M at *
  have step : ∀ t : Nat, t ≤ 4294967296 → ((wrap64 (t : Int) ≤ 3037000499 ∧ wrap64 (wrap64 (t : Int) * wrap64 (t : Int)) ≤ n) ↔ t * t ≤ M) := by
    intro t ht
    rw [w64' (x := (t : Int)) (by omega) (by omega)]
    constructor
    · rintro ⟨ha, hb⟩
      have hc : t * t ≤ 3037000499 * 3037000499 := Nat.mul_le_mul (by omega) (by omega)
      rw [← Int.natCast_mul, w64' (by omega) (by omega)] at hb
      omega
    · intro ha
      have hc : t ≤ 3037000499 := by
        refine Nat.le_of_not_lt fun hlt => ?_
        have : 3037000500 * 3037000500 ≤ t * t := Nat.mul_le_mul (by omega) (by omega)
        omega
      refine ⟨by omega, ?_⟩
      rw [← Int.natCast_mul, w64' (by omega) (by omega)]
      omega
  intro j
  induction j with
  | zero =>
    intro r k hr hb hk
    obtain ⟨k, rfl⟩ : ∃ m, k = m + 1 := ⟨k - 1, by omega⟩
    obtain ⟨k, rfl⟩ : ∃ m, k = m + 1 := ⟨k - 1, by omega⟩
    have hs := step (r + 1) (by omega)
    simp only [Nat.pow_zero]
    rw [imageeditorref01_Sqrt.l0, if_pos (by omega), show (r : Int) + ((1 : Nat) : Int) = ((r + 1 : Nat) : Int) from by omega]
    rw [show ((1 : Nat) : Int) / 2 = 0 from by decide]
    have z : ∀ q : Int, imageeditorref01_Sqrt.l0 (k + 1) n q 0 = some q := fun q => by simp [imageeditorref01_Sqrt.l0]
    simp only [z, rootBits, Nat.pow_zero]
    by_cases hle : (r + 1) * (r + 1) ≤ M
    · rw [if_pos hle, if_pos (hs.mpr hle).1, if_pos (hs.mpr hle).2, w64' (by omega) (by omega)]
    · rw [if_neg hle]
      split
      · rename_i h; rw [if_neg (fun h' => hle (hs.mp ⟨h, h'⟩))]
      · rfl
  | succ j ih =>
    intro r k hr hb hk
    obtain ⟨k, rfl⟩ : ∃ m, k = m + 1 := ⟨k - 1, by omega⟩
    have e1 : 2 ^ (j + 1 + 1) = 2 ^ (j + 1) + 2 ^ (j + 1) := by rw [Nat.pow_succ]; omega
    have hp : 0 < 2 ^ (j + 1) := Nat.pow_pos (by omega)
    have hs := step (r + 2 ^ (j + 1)) (by omega)
    rw [imageeditorref01_Sqrt.l0, if_pos (by omega), show (r : Int) + ((2 ^ (j + 1) : Nat) : Int) = ((r + 2 ^ (j + 1) : Nat) : Int) from by omega, pow_half]
    rw [ih r k (mod_half _ _ hr) (by omega) (by omega), rootBits.eq_2 M r (j + 1)]
    by_cases hle : (r + 2 ^ (j + 1)) * (r + 2 ^ (j + 1)) ≤ M
    · rw [if_pos hle, if_pos (hs.mpr hle).1, if_pos (hs.mpr hle).2, w64' (by omega) (by omega), ih (r + 2 ^ (j + 1)) k (mod_half' _ _ hr) (by omega) (by omega)]
    · rw [if_neg hle]
      split
      · rename_i h; rw [if_neg (fun h' => hle (hs.mp ⟨h, h'⟩))]
      · rfl
theorem rsqrt_eq (n : Int) (hn : I64 n) : ∃ k, imageeditorref01_Sqrt.f k n = some (sqrtS n) := by
  unfold I64 at hn
  refine ⟨33, ?_⟩
  unfold imageeditorref01_Sqrt.f sqrtS
  by_cases h : n < 0
  · rw [if_pos h, show n.toNat = 0 from by omega, rootN_zero]; rfl
  · rw [if_neg h, rootN_32 _ (by omega)]
    exact rsqrt_l0 n (by omega) hn.2 31 0 33 (by omega) (by omega) (by omega)

theorem rhypot_l0 (x0 x1 : Int) (h1 : 0 ≤ x1 ∧ x1 < 18446744073709551616) (h0 : 0 ≤ x0) : ∀ (j r k : Nat), r % 2 ^ (j + 1) = 0 → r + 2 ^ (j + 1) ≤ 18446744073709551616 → j + 3 ≤ k →
    imageeditorref01_Hypot.l0 k x1 x0 (r : Int) ((2 ^ j : Nat) : Int) = some (signedS ((rootBits (x0 * 18446744073709551616 + x1).toNat (j + 1) r : Nat) : Int) false) := by
  have hN : ((x0 * 18446744073709551616 + x1).toNat : Int) = x0 * 18446744073709551616 + x1 := Int.toNat_of_nonneg (by omega)
  generalize hM : (x0 * 18446744073709551616 + x1).toNat = M at *
  have fin : ∀ (q : Nat) (k : Nat), q < 18446744073709551616 → imageeditorref01_Hypot.l0 (k + 2) x1 x0 (q : Int) 0 = some (signedS (q : Int) false) := by
    intro q k hq
    have hs : imageeditorref01_signed.f (k + 1) 0 (q : Int) false = some (signedS (q : Int) false) := by
      unfold imageeditorref01_signed.f signedS
      simp only [Bool.false_eq_true, if_false]
      rw [if_neg (by omega)]
      split
      · rfl
      · rw [w64' (by omega) (by omega)]
    rw [imageeditorref01_Hypot.l0, if_neg (by omega), hs]
    rfl
  intro j
  induction j with
  | zero =>
    intro r k hr hb hk
    obtain ⟨k, rfl⟩ : ∃ m, k = m + 3 := ⟨k - 3, by omega⟩
    have ho := or_bit r 0 hr (by omega) (by omega)
    simp only [Nat.pow_zero] at ho ⊢
    have htt := product_eq ((r + 1 : Nat) : Int) ((r + 1 : Nat) : Int) (sq_u64 _ (by omega)) (sq_u64 _ (by omega))
    have hcmp := cmp128 (((r + 1 : Nat) : Int) * ((r + 1 : Nat) : Int)) x0 x1 h1
    rw [← hN] at hcmp
    rw [imageeditorref01_Hypot.l0, if_pos (by omega), ho, htt]
    simp only [Option.bind_some, rootBits, Nat.pow_zero]
    rw [show ((1 : Nat) : Int) / 2 = 0 from by decide]
    rw [fin r k (by omega), fin (r + 1) k (by omega)]
    by_cases hle : (r + 1) * (r + 1) ≤ M
    · rw [if_pos hle]
      have : ((r + 1 : Nat) : Int) * ((r + 1 : Nat) : Int) ≤ (M : Int) := by rw [← Int.natCast_mul]; omega
      rcases hcmp.mpr this with h | ⟨h, h'⟩
      · rw [if_pos h]
      · rw [if_neg (by omega), if_pos h, if_pos h']
    · rw [if_neg hle]
      have : ¬ ((r + 1 : Nat) : Int) * ((r + 1 : Nat) : Int) ≤ (M : Int) := by rw [← Int.natCast_mul]; omega
      have hn := fun h => this (hcmp.mp h)
      rw [if_neg (fun h => hn (.inl h))]
      split
      · rename_i h
        rw [if_neg (fun h' => hn (.inr ⟨h, h'⟩))]
      · rfl
  | succ j ih =>
    intro r k hr hb hk
    obtain ⟨k, rfl⟩ : ∃ m, k = m + 1 := ⟨k - 1, by omega⟩
    have e1 : 2 ^ (j + 1 + 1) = 2 ^ (j + 1) + 2 ^ (j + 1) := by rw [Nat.pow_succ]; omega
    have hp : 0 < 2 ^ (j + 1) := Nat.pow_pos (by omega)
    have ho := or_bit r (j + 1) hr (by omega) (by omega)
    have htt := product_eq ((r + 2 ^ (j + 1) : Nat) : Int) ((r + 2 ^ (j + 1) : Nat) : Int) (sq_u64 _ (by omega)) (sq_u64 _ (by omega))
    have hcmp := cmp128 (((r + 2 ^ (j + 1) : Nat) : Int) * ((r + 2 ^ (j + 1) : Nat) : Int)) x0 x1 h1
    rw [← hN] at hcmp
    rw [imageeditorref01_Hypot.l0, if_pos (by omega), ho, htt, pow_half]
    simp only [Option.bind_some]
    rw [ih r k (mod_half _ _ hr) (by omega) (by omega), ih (r + 2 ^ (j + 1)) k (mod_half' _ _ hr) (by omega) (by omega)]
    rw [rootBits.eq_2 M r (j + 1)]
    by_cases hle : (r + 2 ^ (j + 1)) * (r + 2 ^ (j + 1)) ≤ M
    · rw [if_pos hle]
      have : ((r + 2 ^ (j + 1) : Nat) : Int) * ((r + 2 ^ (j + 1) : Nat) : Int) ≤ (M : Int) := by rw [← Int.natCast_mul]; omega
      rcases hcmp.mpr this with h | ⟨h, h'⟩
      · rw [if_pos h]
      · rw [if_neg (by omega), if_pos h, if_pos h']
    · rw [if_neg hle]
      have : ¬ ((r + 2 ^ (j + 1) : Nat) : Int) * ((r + 2 ^ (j + 1) : Nat) : Int) ≤ (M : Int) := by rw [← Int.natCast_mul]; omega
      have hn := fun h => this (hcmp.mp h)
      rw [if_neg (fun h => hn (.inl h))]
      split
      · rename_i h
        rw [if_neg (fun h' => hn (.inr ⟨h, h'⟩))]
      · rfl
theorem rhypot_eq (x y : Int) (hx : I64 x) (hy : I64 y) : ∃ k, imageeditorref01_Hypot.f k x y = some (hypotS x y) := by
  have ux := mag_u64 hx
  have uy := mag_u64 hy
  obtain ⟨hi, lo, h0, h0', hlo, elo, esum, e1, e2⟩ := sum128 (x * x) (y * y) (sq_bound hx) (sq_bound hy)
  have hk := rhypot_l0 hi lo hlo h0 63 0 66 (by omega) (by omega) (by omega)
  have es : signedS ((rootBits (hi * 18446744073709551616 + lo).toNat 64 0 : Nat) : Int) false = hypotS x y := by
    unfold hypotS signedS
    rw [esum, rootN_64]
    simp only [Bool.false_eq_true, if_false]
    split <;> omega
  rw [es] at hk
  refine ⟨67, ?_⟩
  unfold imageeditorref01_Hypot.f
  rw [abs_eq x hx, abs_eq y hy]
  simp only [Option.bind_some]
  rw [product_eq _ _ ux ux, product_eq _ _ uy uy, mag_sq, mag_sq]
  simp only [Option.bind_some]
  rw [← elo]
  split
  · rename_i h
    rw [← e1 h, imageeditorref01_Hypot.j0]; exact hk
  · rename_i h
    rw [← e2 h, imageeditorref01_Hypot.j0]; exact hk
end Go.Proofs.Yteehnbgkgdhgaaa.NM
