/-
  The printed functions of package num and of its reference come to the plain arithmetic of Nm1.
-/
import Derived.Test.YteehnbgkgdhgaaaPNumx
import Derived.Test.YteehnbgkgdhgaaaNm1
import Derived.Laws.BitsAllLaws
import Derived.Laws.Bits64
namespace Go.Proofs.Yteehnbgkgdhgaaa.NM
open Go.RowKit Go.Proofs.Yteehnbgkgdhgaaa.PNum Go.Proofs.YteehnbgkgdhgaaaW.PrintWords Go.Proofs.YteehnbgkgdhgaaaW.PrintLast Go.Proofs.YteehnbgkgdhgaaaW.PrintMore
set_option linter.unusedVariables false

theorem w64 {x : Int} (h : I64 x) : wrap64 x = x := by unfold wrap64; unfold I64 at h; omega
theorem w64' {x : Int} (h1 : -9223372036854775808 ≤ x) (h2 : x ≤ 9223372036854775807) : wrap64 x = x := w64 ⟨h1, h2⟩
theorem wu {x : Int} (h1 : 0 ≤ x) (h2 : x < 18446744073709551616) : IntKind.u64.wrap x = x := by rw [IntKind.wrap_u64]; omega
theorem wrap64_sub_mul (a b c : Int) : wrap64 (a - wrap64 b) = wrap64 (a - b) := by unfold wrap64; omega

theorem floor_eq (a b : Int) (ha : I64 a) (hb : I64 b) : num_Floor.f a b = some (floorS a b) := by
  unfold num_Floor.f floorS
  by_cases h0 : b = 0
  · simp [h0]
  · rw [if_neg h0, if_neg h0]
    by_cases h1 : b = -1
    · rw [if_pos h1, if_pos h1]
      split
      · rfl
      · rw [w64]; unfold I64 at *; omega
    · rw [if_neg h1, if_neg h1]
      have hr := tdiv_range ha h0 h1
      have hf := fdiv_range ha h0 h1
      rw [fdiv_tdiv a b h0] at hf ⊢
      rw [w64 hr]
      split
      · rfl
      · split
        · rename_i h2 h3
          rw [if_neg h2, if_pos h3] at hf
          rw [w64 hf]
        · rfl

theorem rfloor_eq (a b : Int) (ha : I64 a) (hb : I64 b) : ∃ k, imageeditorref01_Floor.f k a b = some (floorS a b) := by
  refine ⟨1, ?_⟩
  unfold imageeditorref01_Floor.f floorS
  by_cases h0 : b = 0
  · simp [h0]
  · rw [if_neg h0, if_neg h0]
    by_cases h1 : b = -1
    · subst h1
      rw [if_pos rfl]
      by_cases h2 : a = -9223372036854775808
      · rw [if_pos h2, if_pos h2]; simp [imageeditorref01_Floor.j0]
      · rw [if_neg h2, if_neg h2]
        simp only [imageeditorref01_Floor.j0, Bool.false_eq_true, if_false, if_neg h0]
        have e : a.tdiv (-1) = -a := by rw [Int.tdiv_neg, Int.tdiv_one]
        have e2 : a.tmod (-1) = 0 := by rw [Int.tmod_neg, Int.tmod_one]
        rw [if_pos e2, e, w64]
        unfold I64 at *; omega
    · rw [if_neg h1]
      have hb1 : (b == -1) = false := by simpa using h1
      rw [hb1]
      have hr := tdiv_range ha h0 h1
      have hf := fdiv_range ha h0 h1
      simp only [if_neg h0, imageeditorref01_Floor.j0, Bool.false_eq_true, if_false, ite_self]
      rw [fdiv_tdiv a b h0] at hf ⊢
      rw [w64 hr]
      by_cases h2 : a.tmod b = 0
      · rw [if_pos h2, if_pos h2]
      · rw [if_neg h2] at hf
        rw [if_neg h2, if_neg h2]
        have e : decide (a.tmod b < 0) = decide (a < 0) := by
          obtain ⟨_, h3, h4⟩ := tmod_bounds a b h0
          by_cases h5 : a < 0
          · have := h4 (by omega); simp [h5]; omega
          · have := h3 (by omega); simp [h5]; omega
        rw [e]
        split
        · rename_i h3
          rw [if_pos h3] at hf
          rw [w64 hf]
        · rfl

theorem abs_eq (a : Int) (ha : I64 a) : imageeditorref01_Abs.f a = some (mag a) := by
  unfold imageeditorref01_Abs.f mag
  unfold I64 at ha
  split
  · rw [IntKind.wrap_u64, IntKind.wrap_u64]; congr 1; omega
  · rw [IntKind.wrap_u64]; congr 1; omega
theorem size_eq (a : Int) (ha : I64 a) : num_size.f a = some (mag a) := abs_eq a ha

theorem div_eq (a b : Int) (ha : I64 a) (hb : I64 b) : ∃ k, num_Div.f k a b = some (divS a b) := by
  refine ⟨1, ?_⟩
  unfold num_Div.f
  rw [floor_eq a b ha hb]
  simp only [Option.bind_some]
  by_cases h0 : b = 0
  · subst h0; simp [num_Div.j0, divS, floorS]
  · rw [if_neg h0]
    by_cases h1 : b = -1
    · subst h1; simp [num_Div.j0, divS, floorS]
    · have hb1 : (b == -1) = false := by simpa using h1
      rw [hb1]
      have hf := fdiv_range ha h0 h1
      have hd := divS_range (b := b) ha
      obtain ⟨r, h, hp, hn⟩ := fdiv_spec a b h0
      have e1 : floorS a b = a.fdiv b := by unfold floorS; rw [if_neg h0, if_neg h1]
      have e : a - a.fdiv b * b = r := by rw [Int.mul_comm]; omega
      have hs := divS_step (a := a) h0 h1
      rw [e] at hs
      unfold I64 at hb
      simp only [num_Div.j0, Bool.false_eq_true, if_false, e1]
      rw [wrap64_sub_mul _ _ 0, e, w64' (x := r) (by omega) (by omega), w64' (x := b - r) (by omega) (by omega)]
      by_cases hpos : 0 < b
      · have := hp hpos
        rw [if_pos (show b > 0 from hpos), if_neg (show ¬ b < 0 by omega)]
        by_cases hu : b - r ≤ r
        · rw [if_pos (show r ≥ b - r from hu)]
          rw [if_pos (.inl ⟨hpos, hu⟩)] at hs
          rw [hs] at hd ⊢
          rw [w64 hd]
        · rw [if_neg (show ¬ r ≥ b - r from hu), hs, if_neg (by omega)]
      · have hneg : b < 0 := by omega
        have := hn hneg
        rw [if_neg (show ¬ b > 0 from hpos), if_pos hneg]
        by_cases hu : r ≤ b - r
        · rw [if_pos hu]
          rw [if_pos (.inr ⟨hneg, hu⟩)] at hs
          rw [hs] at hd ⊢
          rw [w64 hd]
        · rw [if_neg hu, hs, if_neg (by omega)]

theorem rdiv_eq (a b : Int) (ha : I64 a) (hb : I64 b) : ∃ k, imageeditorref01_Div.f k a b = some (divS a b) := by
  refine ⟨1, ?_⟩
  obtain ⟨k, hk⟩ := rfloor_eq a b ha hb
  have hk : imageeditorref01_Floor.f 1 a b = some (floorS a b) := by
    unfold imageeditorref01_Floor.f at hk ⊢
    match k, hk with
    | 0, hk =>
      by_cases h0 : b = 0
      · rw [if_pos h0] at hk ⊢; exact hk
      · rw [if_neg h0] at hk; split at hk <;> simp [imageeditorref01_Floor.j0] at hk
    | k + 1, hk => exact hk
  unfold imageeditorref01_Div.f
  by_cases h0 : b = 0
  · subst h0; simp [divS]
  · rw [if_neg h0, hk]
    simp only [Option.bind_some]
    by_cases hm : b = -1 ∧ a = -9223372036854775808
    · obtain ⟨rfl, rfl⟩ := hm; rfl
    · have hx : (if a = -9223372036854775808 then imageeditorref01_Div.j0 1 a b (floorS a b) (b == -1) else imageeditorref01_Div.j0 1 a b (floorS a b) false) = imageeditorref01_Div.j0 1 a b (floorS a b) false := by
        split
        · rename_i h2
          have : (b == -1) = false := by simpa using fun h => hm ⟨h, h2⟩
          rw [this]
        · rfl
      rw [hx]
      have hfl := floorS_range (b := b) ha
      have hd := divS_range (b := b) ha
      -- the rest
      obtain ⟨r, h, hr⟩ : ∃ r, a = b * floorS a b + r ∧ ((0 < b → 0 ≤ r ∧ r < b) ∧ (b < 0 → b < r ∧ r ≤ 0)) := by
        by_cases h1 : b = -1
        · subst h1
          have : ¬ a = -9223372036854775808 := fun h => hm ⟨rfl, h⟩
          unfold floorS; simp [this]; exact ⟨0, by omega⟩
        · unfold floorS; rw [if_neg h0, if_neg h1]; exact fdiv_spec a b h0
      have e : a - b * floorS a b = r := by omega
      have hs : divS a b = if (0 < b ∧ b - r ≤ r) ∨ (b < 0 ∧ r ≤ b - r) then floorS a b + 1 else floorS a b := by
        by_cases h1 : b = -1
        · subst h1
          have h2 : ¬ a = -9223372036854775808 := fun h => hm ⟨rfl, h⟩
          have : r = 0 := by omega
          subst this
          unfold divS floorS; simp [h2]
        · rw [divS_step h0 h1]
          have e1 : floorS a b = a.fdiv b := by unfold floorS; rw [if_neg h0, if_neg h1]
          rw [e1] at e ⊢
          rw [Int.mul_comm] at e
          rw [e]
      unfold I64 at hb
      simp only [imageeditorref01_Div.j0, Bool.false_eq_true, if_false]
      rw [wrap64_sub_mul _ _ 0, e, w64' (x := r) (by omega) (by omega), abs_eq r (by unfold I64; omega), abs_eq b (by unfold I64; omega)]
      simp only [Option.bind_some]
      rw [wu (x := mag b - mag r) (by unfold mag; split <;> split <;> omega) (by unfold mag; split <;> split <;> omega)]
      by_cases hu : (0 < b ∧ b - r ≤ r) ∨ (b < 0 ∧ r ≤ b - r)
      · rw [if_pos hu] at hs
        rw [if_pos (by unfold mag; split <;> split <;> omega)]
        rw [hs] at hd ⊢
        rw [w64 hd]
      · rw [if_neg hu] at hs
        rw [if_neg (by unfold mag; split <;> split <;> omega), hs]

/-! words of 64 bits -/
theorem and32 (a : Int) (h0 : 0 ≤ a) (h1 : a < 18446744073709551616) : Go.bits .and .u64 a 4294967295 = a % 4294967296 := by
  rw [u64_and a 4294967295 h0 h1 (by omega) (by omega)]
  have e : ((4294967295 : Int).toNat) = 2 ^ 32 - 1 := by decide
  rw [e, Nat.and_two_pow_sub_one_eq_mod]
  omega
theorem or_hi (x y : Int) (n : Nat) (hx0 : 0 ≤ x) (hy0 : 0 ≤ y) (hy : y < ((2 ^ n : Nat) : Int)) (hx : x % ((2 ^ n : Nat) : Int) = 0) (h1 : x < 18446744073709551616) (h2 : y < 18446744073709551616) :
    Go.bits .or .u64 x y = x + y := by
  rw [u64_or x y hx0 h1 hy0 h2]
  obtain ⟨q, hq⟩ : ∃ q : Nat, x.toNat = 2 ^ n * q := by
    refine ⟨x.toNat / 2 ^ n, ?_⟩
    have : x.toNat % 2 ^ n = 0 := by
      have e : ((x.toNat % 2 ^ n : Nat) : Int) = 0 := by rw [Int.natCast_emod, Int.toNat_of_nonneg hx0]; exact hx
      omega
    have := Nat.div_add_mod x.toNat (2 ^ n)
    omega
  rw [hq, ← Nat.two_pow_add_eq_or_of_lt (by omega)]
  rw [← hq]
  omega

theorem mul32 {x y : Int} (hx0 : 0 ≤ x) (hx : x < 4294967296) (hy0 : 0 ≤ y) (hy : y < 4294967296) : 0 ≤ x * y ∧ x * y ≤ 18446744065119617025 := by
  refine ⟨Int.mul_nonneg hx0 hy0, ?_⟩
  have : x * y ≤ 4294967295 * 4294967295 := Int.mul_le_mul (by omega) (by omega) hy0 (by omega)
  omega

theorem times_core (P Q R S : Int) (hP : 0 ≤ P ∧ P ≤ 18446744065119617025) (hQ : 0 ≤ Q ∧ Q ≤ 18446744065119617025) (hR : 0 ≤ R ∧ R ≤ 18446744065119617025) (hS : 0 ≤ S ∧ S ≤ 18446744065119617025) :
    (IntKind.u64.wrap (IntKind.u64.wrap (IntKind.u64.wrap S + IntKind.u64.wrap (IntKind.u64.wrap Q + IntKind.u64.wrap P / 4294967296) / 4294967296) + IntKind.u64.wrap (IntKind.u64.wrap R + Go.bits .and .u64 (IntKind.u64.wrap (IntKind.u64.wrap Q + IntKind.u64.wrap P / 4294967296)) 4294967295) / 4294967296),
     Go.bits .or .u64 (IntKind.u64.wrap (IntKind.u64.wrap (IntKind.u64.wrap R + Go.bits .and .u64 (IntKind.u64.wrap (IntKind.u64.wrap Q + IntKind.u64.wrap P / 4294967296)) 4294967295) * 4294967296)) (Go.bits .and .u64 (IntKind.u64.wrap P) 4294967295))
    = ((S * 18446744073709551616 + R * 4294967296 + Q * 4294967296 + P) / 18446744073709551616, (S * 18446744073709551616 + R * 4294967296 + Q * 4294967296 + P) % 18446744073709551616) := by
  rw [wu (x := P) (by omega) (by omega), wu (x := Q) (by omega) (by omega), wu (x := R) (by omega) (by omega), wu (x := S) (by omega) (by omega)]
  rw [wu (x := Q + P / 4294967296) (by omega) (by omega), and32 (Q + P / 4294967296) (by omega) (by omega), and32 P (by omega) (by omega)]
  rw [wu (x := R + (Q + P / 4294967296) % 4294967296) (by omega) (by omega)]
  rw [wu (x := S + (Q + P / 4294967296) / 4294967296) (by omega) (by omega)]
  rw [wu (x := S + (Q + P / 4294967296) / 4294967296 + (R + (Q + P / 4294967296) % 4294967296) / 4294967296) (by omega) (by omega)]
  rw [IntKind.wrap_u64]
  rw [or_hi _ _ 32 (by omega) (by omega) (by simp only [Nat.reducePow]; omega) (by simp only [Nat.reducePow]; omega) (by omega) (by omega)]
  congr 1 <;> omega

theorem split_mul (a b : Int) : a * b = (a / 4294967296) * (b / 4294967296) * 18446744073709551616 + (a % 4294967296) * (b / 4294967296) * 4294967296 + (a / 4294967296) * (b % 4294967296) * 4294967296 + (a % 4294967296) * (b % 4294967296) := by
  have h1 : a = 4294967296 * (a / 4294967296) + a % 4294967296 := by omega
  have h2 : b = 4294967296 * (b / 4294967296) + b % 4294967296 := by omega
  generalize a / 4294967296 = x at *
  generalize a % 4294967296 = y at *
  generalize b / 4294967296 = z at *
  generalize b % 4294967296 = v at *
  subst h1 h2
  grind

theorem times_eq (a b : Int) (ha : U64 a) (hb : U64 b) : num_times.f a b = some (a * b / 18446744073709551616, a * b % 18446744073709551616) := by
  unfold U64 at ha hb
  unfold num_times.f
  rw [and32 a ha.1 ha.2, and32 b hb.1 hb.2]
  rw [times_core _ _ _ _ (mul32 (by omega) (by omega) (by omega) (by omega)) (mul32 (by omega) (by omega) (by omega) (by omega)) (mul32 (by omega) (by omega) (by omega) (by omega)) (mul32 (by omega) (by omega) (by omega) (by omega))]
  rw [← split_mul a b]
theorem product_eq (a b : Int) (ha : U64 a) (hb : U64 b) : imageeditorref01_Product.f a b = some (a * b / 18446744073709551616, a * b % 18446744073709551616) := by
  have h := times_eq a b ha hb
  unfold num_times.f at h
  unfold imageeditorref01_Product.f
  injection h with h
  have h1 := (Prod.mk.injEq _ _ _ _ ▸ h).1
  rw [h1, IntKind.wrap_u64]
end Go.Proofs.Yteehnbgkgdhgaaa.NM
