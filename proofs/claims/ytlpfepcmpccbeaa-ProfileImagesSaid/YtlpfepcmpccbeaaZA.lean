/-
  Proved: contracts of functions of the program and of the reference, several texts of mine in one; the conditions stand at each theorem.
-/
import Derived.Test.YtlpfepcmpccbeaaZPNumx
import Derived.Laws.BitsAllLaws
import Derived.Laws.Bits64
import Derived.Lib.Hide
import Derived.Outline
import Derived.Deep.DeepCutAuto
import Derived.Laws.BitsLemmas
import Derived.Laws.CopyOwn
/-
  Plain arithmetic on whole numbers: rounded quotients, saturated numbers, roots. No program in sight.
-/
namespace Go.Proofs.Ytlpfepcmpccbeaa.NM
set_option linter.unusedVariables false


/-! floor and rounded quotients -/
def minI : Int := -9223372036854775808
def maxI : Int := 9223372036854775807

def floorS (a b : Int) : Int := if b = 0 then 0 else if b = -1 then (if a = -9223372036854775808 then 9223372036854775807 else -a) else a.fdiv b
def divS (a b : Int) : Int := if b = 0 then 0 else if b = -1 then (if a = -9223372036854775808 then 9223372036854775807 else -a) else (2 * a + b).fdiv (2 * b)

/-- the floor q, r of a by b -/
theorem fdiv_spec (a b : Int) (hb : b ≠ 0) : ∃ r, a = b * a.fdiv b + r ∧ ((0 < b → 0 ≤ r ∧ r < b) ∧ (b < 0 → b < r ∧ r ≤ 0)) := by
  refine ⟨a.fmod b, ?_, ?_, ?_⟩
  · have := Int.mul_fdiv_add_fmod a b; omega
  · intro h
    exact ⟨Int.fmod_nonneg_of_pos a h, Int.fmod_lt_of_pos a h⟩
  · intro h
    have h1 := Int.neg_fmod_neg (a := -a) (b := -b)
    simp only [Int.neg_neg] at h1
    have h2 := Int.fmod_nonneg_of_pos (-a) (b := -b) (by omega)
    have h3 := Int.fmod_lt_of_pos (-a) (b := -b) (by omega)
    omega

theorem fdiv_unique {a b q r : Int} (h : a = b * q + r) (hp : 0 < b → 0 ≤ r ∧ r < b) (hn : b < 0 → b < r ∧ r ≤ 0) (hb : b ≠ 0) : a.fdiv b = q := by
  obtain ⟨r', h', hp', hn'⟩ := fdiv_spec a b hb
  have e : b * (a.fdiv b - q) = r - r' := by rw [Int.mul_sub]; omega
  by_cases hz : a.fdiv b - q = 0
  · omega
  · exfalso
    have := Int.natAbs_mul b (a.fdiv b - q)
    rw [e] at this
    have h1 : 1 ≤ (a.fdiv b - q).natAbs := by omega
    have h2 : b.natAbs * 1 ≤ b.natAbs * (a.fdiv b - q).natAbs := Nat.mul_le_mul_left _ h1
    rcases Int.lt_or_gt_of_ne hb with hl | hg
    · have := hn hl; have := hn' hl; omega
    · have := hp hg; have := hp' hg; omega

/-- tdiv's parts -/
theorem tdiv_spec (a b : Int) : a = b * a.tdiv b + a.tmod b := by
  have := Int.mul_tdiv_add_tmod a b; omega


theorem divS_up {a b q r : Int} (h : a = b * q + r) (hp : 0 < b → 0 ≤ r ∧ r < b) (hn : b < 0 → b < r ∧ r ≤ 0) (hb : b ≠ 0)
    (hu : (0 < b ∧ b - r ≤ r) ∨ (b < 0 ∧ r ≤ b - r)) : (2 * a + b).fdiv (2 * b) = q + 1 := by
  refine fdiv_unique (r := 2 * r - b) ?_ ?_ ?_ (by omega)
  · rw [h]; grind
  · intro h0; have := hp (by omega); omega
  · intro h0; have := hn (by omega); omega

theorem divS_down {a b q r : Int} (h : a = b * q + r) (hp : 0 < b → 0 ≤ r ∧ r < b) (hn : b < 0 → b < r ∧ r ≤ 0) (hb : b ≠ 0)
    (hu : ¬ ((0 < b ∧ b - r ≤ r) ∨ (b < 0 ∧ r ≤ b - r))) : (2 * a + b).fdiv (2 * b) = q := by
  refine fdiv_unique (r := 2 * r + b) ?_ ?_ ?_ (by omega)
  · rw [h]; grind
  · intro h0; have := hp (by omega); omega
  · intro h0; have := hn (by omega); omega

/-! roots -/
def rootBits (n : Nat) : Nat → Nat → Nat
  | 0, r => r
  | k + 1, r => if (r + 2 ^ k) * (r + 2 ^ k) ≤ n then rootBits n k (r + 2 ^ k) else rootBits n k r

/-- the root, 63 bits -/
def rootN (n : Nat) : Nat := rootBits n 63 0

def sat (x : Int) : Int := max (-9223372036854775808) (min x 9223372036854775807)
def fixedS (a b : Int) : Int := sat ((a * b + 32768) / 65536)
def ratioS (a b : Int) : Int := if b = 0 then 0 else sat ((2 * (a * 65536) + b).fdiv (2 * b))

/-- a magnitude with a sign, saturated -/
def signedS (m : Int) (minus : Bool) : Int := if minus then (if 9223372036854775808 ≤ m then -9223372036854775808 else -m) else (if 9223372036854775807 < m then 9223372036854775807 else m)
theorem signedS_sat (m : Int) (h : 0 ≤ m) (minus : Bool) : signedS m minus = sat (if minus then -m else m) := by
  unfold signedS sat
  cases minus <;> simp <;> (try split) <;> omega

def mag (a : Int) : Int := if a < 0 then -a else a
def minusB (a b : Int) : Bool := (decide (a < 0)) != (decide (b < 0))

theorem mag_nonneg (a : Int) : 0 ≤ mag a := by unfold mag; split <;> omega
theorem mag_le {a : Int} (h1 : -9223372036854775808 ≤ a) (h2 : a ≤ 9223372036854775807) : mag a ≤ 9223372036854775808 := by unfold mag; split <;> omega

/-- rounding the quotient of magnitudes -/
theorem ratioS_mag {a b q r : Int} (hb : b ≠ 0) (h : mag a * 65536 = mag b * q + r) (h0 : 0 ≤ r) (h1 : r < mag b) :
    ratioS a b = sat (if minusB a b then -(if mag b - r < r then q + 1 else q) else (if mag b - r ≤ r then q + 1 else q)) := by
  unfold ratioS
  rw [if_neg hb]
  congr 1
  unfold minusB mag at *
  by_cases ha : a < 0 <;> by_cases hb' : b < 0 <;> simp only [ha, hb', if_true, if_false, decide_true, decide_false, bne_self_eq_false, Bool.false_eq_true] at *
  · -- both negative: a*65536 = b*q - r
    split
    · exact divS_up (r := -r) (by grind) (by omega) (by omega) hb (by omega)
    · exact divS_down (r := -r) (by grind) (by omega) (by omega) hb (by omega)
  · -- a < 0 < b
    have hx : ((true != false) = true) := rfl
    rw [if_pos hx]
    by_cases hz : r = 0
    · subst hz
      rw [if_neg (by omega)]
      exact divS_down (r := 0) (by grind) (by omega) (by omega) hb (by omega)
    · split
      · exact divS_down (r := b - r) (q := -(q + 1)) (by grind) (by omega) (by omega) hb (by omega)
      · have := divS_up (a := a * 65536) (b := b) (r := b - r) (q := -(q + 1)) (by grind) (by omega) (by omega) hb (by omega)
        omega
  · have hx : ((false != true) = true) := rfl
    rw [if_pos hx]
    by_cases hz : r = 0
    · subst hz
      rw [if_neg (by omega)]
      exact divS_down (r := 0) (by grind) (by omega) (by omega) hb (by omega)
    · split
      · exact divS_down (r := b + r) (q := -(q + 1)) (by grind) (by omega) (by omega) hb (by omega)
      · have := divS_up (a := a * 65536) (b := b) (r := b + r) (q := -(q + 1)) (by grind) (by omega) (by omega) hb (by omega)
        omega
  · split
    · exact divS_up (r := r) (by grind) (by omega) (by omega) hb (by omega)
    · exact divS_down (r := r) (by grind) (by omega) (by omega) hb (by omega)

/-- a number of 64 bits, with a sign -/
def I64 (a : Int) : Prop := -9223372036854775808 ≤ a ∧ a ≤ 9223372036854775807
instance (a : Int) : Decidable (I64 a) := by unfold I64; exact inferInstance
/-- a number of 64 bits, without a sign -/
def U64 (a : Int) : Prop := 0 ≤ a ∧ a < 18446744073709551616
instance (a : Int) : Decidable (U64 a) := by unfold U64; exact inferInstance

theorem tmod_bounds (a b : Int) (hb : b ≠ 0) : (a.tmod b).natAbs < b.natAbs ∧ (0 ≤ a → 0 ≤ a.tmod b) ∧ (a ≤ 0 → a.tmod b ≤ 0) := by
  refine ⟨?_, fun h => Int.tmod_nonneg b h, fun h => ?_⟩
  · rw [Int.natAbs_tmod]
    exact Nat.mod_lt _ (by omega)
  · have h1 := Int.tmod_nonneg (a := -a) b (by omega)
    rw [Int.neg_tmod] at h1
    omega
theorem tdiv_natAbs (a b : Int) (hb : b ≠ 0) : (a.tdiv b).natAbs ≤ a.natAbs ∧ (2 ≤ b.natAbs → 2 * (a.tdiv b).natAbs ≤ a.natAbs) := by
  have e0 : (a.tdiv b).natAbs = a.natAbs / b.natAbs := Int.natAbs_tdiv a b
  rw [e0]
  refine ⟨Nat.div_le_self _ _, fun h => ?_⟩
  have h1 := Nat.div_mul_le_self a.natAbs b.natAbs
  have h2 := Nat.mul_le_mul_left (a.natAbs / b.natAbs) h
  omega
theorem tdiv_range {a b : Int} (ha : I64 a) (hb0 : b ≠ 0) (hb1 : b ≠ -1) : I64 (a.tdiv b) := by
  unfold I64 at *
  by_cases h1 : b = 1
  · subst h1; rw [Int.tdiv_one]; exact ha
  · have := (tdiv_natAbs a b hb0).2 (by omega)
    omega
theorem fdiv_range {a b : Int} (ha : I64 a) (hb0 : b ≠ 0) (hb1 : b ≠ -1) : I64 (a.fdiv b) := by
  unfold I64 at *
  by_cases h1 : b = 1
  · subst h1; rw [Int.fdiv_one]; exact ha
  · obtain ⟨r, h, hp, hn⟩ := fdiv_spec a b hb0
    have e : b * a.fdiv b = a - r := by omega
    have h2 := Int.natAbs_mul b (a.fdiv b)
    rw [e] at h2
    have h3 : 2 * (a.fdiv b).natAbs ≤ b.natAbs * (a.fdiv b).natAbs := Nat.mul_le_mul_right _ (by omega)
    rcases Int.lt_or_gt_of_ne hb0 with hl | hg
    · have := hn hl
      by_cases hq : (a.fdiv b).natAbs ≤ 4611686018427387905
      · omega
      · have : b.natAbs * 4611686018427387906 ≤ b.natAbs * (a.fdiv b).natAbs := Nat.mul_le_mul_left _ (by omega)
        omega
    · have := hp hg
      by_cases hq : (a.fdiv b).natAbs ≤ 4611686018427387905
      · omega
      · have : b.natAbs * 4611686018427387906 ≤ b.natAbs * (a.fdiv b).natAbs := Nat.mul_le_mul_left _ (by omega)
        omega
theorem fdiv_tdiv (a b : Int) (hb : b ≠ 0) : a.fdiv b = if a.tmod b = 0 then a.tdiv b else if ((decide (a < 0)) != (decide (b < 0))) = true then a.tdiv b - 1 else a.tdiv b := by
  obtain ⟨h1, h2, h3⟩ := tmod_bounds a b hb
  have h4 := tdiv_spec a b
  split
  · exact fdiv_unique (r := 0) (by omega) (by omega) (by omega) hb
  · split
    · rename_i h0 hs
      refine fdiv_unique (r := a.tmod b + b) (by rw [Int.mul_sub]; omega) ?_ ?_ hb
      · intro hp
        have ha : a < 0 := by
          by_cases ha : a < 0
          · exact ha
          · simp [ha, show ¬ b < 0 by omega] at hs
        have := h3 (by omega); omega
      · intro hp
        have ha : ¬ a < 0 := by
          intro ha; simp [ha, hp] at hs
        have := h2 (by omega); omega
    · rename_i h0 hs
      refine fdiv_unique (r := a.tmod b) (by omega) ?_ ?_ hb
      · intro hp
        have ha : ¬ a < 0 := by
          intro ha; simp [ha, show ¬ b < 0 by omega] at hs
        have := h2 (by omega); omega
      · intro hp
        have ha : a < 0 := by
          by_cases ha : a < 0
          · exact ha
          · simp [ha, hp] at hs
        have := h3 (by omega); omega
theorem floorS_range {a b : Int} (ha : I64 a) : I64 (floorS a b) := by
  unfold floorS
  split
  · unfold I64; omega
  · split
    · unfold I64 at *; split <;> omega
    · exact fdiv_range ha (by omega) (by omega)
theorem divS_step {a b : Int} (hb0 : b ≠ 0) (hb1 : b ≠ -1) :
    divS a b = if (0 < b ∧ b - (a - a.fdiv b * b) ≤ a - a.fdiv b * b) ∨ (b < 0 ∧ a - a.fdiv b * b ≤ b - (a - a.fdiv b * b)) then a.fdiv b + 1 else a.fdiv b := by
  unfold divS
  rw [if_neg hb0, if_neg hb1]
  obtain ⟨r, h, hp, hn⟩ := fdiv_spec a b hb0
  have e : a - a.fdiv b * b = r := by rw [Int.mul_comm]; omega
  rw [e]
  split
  · rename_i hu; exact divS_up h hp hn hb0 hu
  · rename_i hu; exact divS_down h hp hn hb0 hu
theorem divS_range {a b : Int} (ha : I64 a) : I64 (divS a b) := by
  by_cases hb0 : b = 0
  · subst hb0; unfold divS I64; simp
  · by_cases hb1 : b = -1
    · subst hb1; unfold divS; unfold I64 at *; simp only [if_neg hb0, if_true]; split <;> omega
    · have hf := fdiv_range ha hb0 hb1
      rw [divS_step hb0 hb1]
      split
      · rename_i hu
        by_cases h1 : b = 1
        · subst h1; exfalso; rw [Int.fdiv_one] at hu; omega
        · obtain ⟨r, h, hp, hn⟩ := fdiv_spec a b hb0
          have e : b * a.fdiv b = a - r := by omega
          have h2 := Int.natAbs_mul b (a.fdiv b)
          rw [e] at h2
          unfold I64 at *
          have : b.natAbs * 2 ≤ b.natAbs * (a.fdiv b).natAbs ∨ (a.fdiv b).natAbs < 2 := by
            by_cases hq : (a.fdiv b).natAbs < 2
            · exact .inr hq
            · exact .inl (Nat.mul_le_mul_left _ (by omega))
          by_cases hq : (a.fdiv b).natAbs ≤ 4611686018427387905
          · omega
          · have : b.natAbs * 4611686018427387906 ≤ b.natAbs * (a.fdiv b).natAbs := Nat.mul_le_mul_left _ (by omega)
            have hx : 2 * (a.fdiv b).natAbs ≤ b.natAbs * (a.fdiv b).natAbs := Nat.mul_le_mul_right _ (by omega)
            rcases Int.lt_or_gt_of_ne hb0 with hl | hg
            · have := hn hl; omega
            · have := hp hg; omega
      · exact hf
end Go.Proofs.Ytlpfepcmpccbeaa.NM
/-
  The printed functions of package num and of its reference come to the plain arithmetic of Nm1.
-/
namespace Go.Proofs.Ytlpfepcmpccbeaa.NM
open Go.RowKit Go.Proofs.Ytlpfepcmpccbeaa.PNum Go.Proofs.YtlpfepcmpccbeaaW.PrintWords Go.Proofs.YtlpfepcmpccbeaaW.PrintLast Go.Proofs.YtlpfepcmpccbeaaW.PrintMore
set_option linter.unusedVariables false

theorem w64 {x : Int} (h : I64 x) : wrap64 x = x := by unfold wrap64; unfold I64 at h; omega
theorem w64' {x : Int} (h1 : -9223372036854775808 ≤ x) (h2 : x ≤ 9223372036854775807) : wrap64 x = x := w64 ⟨h1, h2⟩
theorem wu {x : Int} (h1 : 0 ≤ x) (h2 : x < 18446744073709551616) : IntKind.u64.wrap x = x := by rw [IntKind.wrap_u64]; omega
theorem wrap64_sub_mul (a b c : Int) : wrap64 (a - wrap64 b) = wrap64 (a - b) := by unfold wrap64; omega

theorem floor_eq (a b : Int) (ha : I64 a) (hb : I64 b) : num_Floor.f a b = some (floorS a b) := by
  unfold num_Floor.f floorS
  by_cases h0 : b = 0
  · simp [h0]
  · rw [if_neg h0, if_neg h0]
    by_cases h1 : b = -1
    · rw [if_pos h1, if_pos h1]
      split
      · rfl
      · rw [w64]; unfold I64 at *; omega
    · rw [if_neg h1, if_neg h1]
      have hr := tdiv_range ha h0 h1
      have hf := fdiv_range ha h0 h1
      rw [fdiv_tdiv a b h0] at hf ⊢
      rw [w64 hr]
      split
      · rfl
      · split
        · rename_i h2 h3
          rw [if_neg h2, if_pos h3] at hf
          rw [w64 hf]
        · rfl

theorem rfloor_eq (a b : Int) (ha : I64 a) (hb : I64 b) : ∃ k, imageeditorref01_Floor.f k a b = some (floorS a b) := by
  refine ⟨1, ?_⟩
  unfold imageeditorref01_Floor.f floorS
  by_cases h0 : b = 0
  · simp [h0]
  · rw [if_neg h0, if_neg h0]
    by_cases h1 : b = -1
    · subst h1
      rw [if_pos rfl]
      by_cases h2 : a = -9223372036854775808
      · rw [if_pos h2, if_pos h2]; simp [imageeditorref01_Floor.j0]
      · rw [if_neg h2, if_neg h2]
        simp only [imageeditorref01_Floor.j0, Bool.false_eq_true, if_false, if_neg h0]
        have e : a.tdiv (-1) = -a := by rw [Int.tdiv_neg, Int.tdiv_one]
        have e2 : a.tmod (-1) = 0 := by rw [Int.tmod_neg, Int.tmod_one]
        rw [if_pos e2, e, w64]
        unfold I64 at *; omega
    · rw [if_neg h1]
      have hb1 : (b == -1) = false := by simpa using h1
      rw [hb1]
      have hr := tdiv_range ha h0 h1
      have hf := fdiv_range ha h0 h1
      simp only [if_neg h0, imageeditorref01_Floor.j0, Bool.false_eq_true, if_false, ite_self]
      rw [fdiv_tdiv a b h0] at hf ⊢
      rw [w64 hr]
      by_cases h2 : a.tmod b = 0
      · rw [if_pos h2, if_pos h2]
      · rw [if_neg h2] at hf
        rw [if_neg h2, if_neg h2]
        have e : decide (a.tmod b < 0) = decide (a < 0) := by
          obtain ⟨_, h3, h4⟩ := tmod_bounds a b h0
          by_cases h5 : a < 0
          · have := h4 (by omega); simp [h5]; omega
          · have := h3 (by omega); simp [h5]; omega
        rw [e]
        split
        · rename_i h3
          rw [if_pos h3] at hf
          rw [w64 hf]
        · rfl

theorem abs_eq (a : Int) (ha : I64 a) : imageeditorref01_Abs.f a = some (mag a) := by
  unfold imageeditorref01_Abs.f mag
  unfold I64 at ha
  split
  · rw [IntKind.wrap_u64, IntKind.wrap_u64]; congr 1; omega
  · rw [IntKind.wrap_u64]; congr 1; omega
theorem size_eq (a : Int) (ha : I64 a) : num_size.f a = some (mag a) := abs_eq a ha

theorem div_eq (a b : Int) (ha : I64 a) (hb : I64 b) : ∃ k, num_Div.f k a b = some (divS a b) := by
  refine ⟨1, ?_⟩
  unfold num_Div.f
  rw [floor_eq a b ha hb]
  simp only [Option.bind_some]
  by_cases h0 : b = 0
  · subst h0; simp [num_Div.j0, divS, floorS]
  · rw [if_neg h0]
    by_cases h1 : b = -1
    · subst h1; simp [num_Div.j0, divS, floorS]
    · have hb1 : (b == -1) = false := by simpa using h1
      rw [hb1]
      have hf := fdiv_range ha h0 h1
      have hd := divS_range (b := b) ha
      obtain ⟨r, h, hp, hn⟩ := fdiv_spec a b h0
      have e1 : floorS a b = a.fdiv b := by unfold floorS; rw [if_neg h0, if_neg h1]
      have e : a - a.fdiv b * b = r := by rw [Int.mul_comm]; omega
      have hs := divS_step (a := a) h0 h1
      rw [e] at hs
      unfold I64 at hb
      simp only [num_Div.j0, Bool.false_eq_true, if_false, e1]
      rw [wrap64_sub_mul _ _ 0, e, w64' (x := r) (by omega) (by omega), w64' (x := b - r) (by omega) (by omega)]
      by_cases hpos : 0 < b
      · have := hp hpos
        rw [if_pos (show b > 0 from hpos), if_neg (show ¬ b < 0 by omega)]
        by_cases hu : b - r ≤ r
        · rw [if_pos (show r ≥ b - r from hu)]
          rw [if_pos (.inl ⟨hpos, hu⟩)] at hs
          rw [hs] at hd ⊢
          rw [w64 hd]
        · rw [if_neg (show ¬ r ≥ b - r from hu), hs, if_neg (by omega)]
      · have hneg : b < 0 := by omega
        have := hn hneg
        rw [if_neg (show ¬ b > 0 from hpos), if_pos hneg]
        by_cases hu : r ≤ b - r
        · rw [if_pos hu]
          rw [if_pos (.inr ⟨hneg, hu⟩)] at hs
          rw [hs] at hd ⊢
          rw [w64 hd]
        · rw [if_neg hu, hs, if_neg (by omega)]

theorem rdiv_eq (a b : Int) (ha : I64 a) (hb : I64 b) : ∃ k, imageeditorref01_Div.f k a b = some (divS a b) := by
  refine ⟨1, ?_⟩
  obtain ⟨k, hk⟩ := rfloor_eq a b ha hb
  have hk : imageeditorref01_Floor.f 1 a b = some (floorS a b) := by
    unfold imageeditorref01_Floor.f at hk ⊢
    match k, hk with
    | 0, hk =>
      by_cases h0 : b = 0
      · rw [if_pos h0] at hk ⊢; exact hk
      · rw [if_neg h0] at hk; split at hk <;> simp [imageeditorref01_Floor.j0] at hk
    | k + 1, hk => exact hk
  unfold imageeditorref01_Div.f
  by_cases h0 : b = 0
  · subst h0; simp [divS]
  · rw [if_neg h0, hk]
    simp only [Option.bind_some]
    by_cases hm : b = -1 ∧ a = -9223372036854775808
    · obtain ⟨rfl, rfl⟩ := hm; rfl
    · have hx : (if a = -9223372036854775808 then imageeditorref01_Div.j0 1 a b (floorS a b) (b == -1) else imageeditorref01_Div.j0 1 a b (floorS a b) false) = imageeditorref01_Div.j0 1 a b (floorS a b) false := by
        split
        · rename_i h2
          have : (b == -1) = false := by simpa using fun h => hm ⟨h, h2⟩
          rw [this]
        · rfl
      rw [hx]
      have hfl := floorS_range (b := b) ha
      have hd := divS_range (b := b) ha
      -- the rest
      obtain ⟨r, h, hr⟩ : ∃ r, a = b * floorS a b + r ∧ ((0 < b → 0 ≤ r ∧ r < b) ∧ (b < 0 → b < r ∧ r ≤ 0)) := by
        by_cases h1 : b = -1
        · subst h1
          have : ¬ a = -9223372036854775808 := fun h => hm ⟨rfl, h⟩
          unfold floorS; simp [this]; exact ⟨0, by omega⟩
        · unfold floorS; rw [if_neg h0, if_neg h1]; exact fdiv_spec a b h0
      have e : a - b * floorS a b = r := by omega
      have hs : divS a b = if (0 < b ∧ b - r ≤ r) ∨ (b < 0 ∧ r ≤ b - r) then floorS a b + 1 else floorS a b := by
        by_cases h1 : b = -1
        · subst h1
          have h2 : ¬ a = -9223372036854775808 := fun h => hm ⟨rfl, h⟩
          have : r = 0 := by omega
          subst this
          unfold divS floorS; simp [h2]
        · rw [divS_step h0 h1]
          have e1 : floorS a b = a.fdiv b := by unfold floorS; rw [if_neg h0, if_neg h1]
          rw [e1] at e ⊢
          rw [Int.mul_comm] at e
          rw [e]
      unfold I64 at hb
      simp only [imageeditorref01_Div.j0, Bool.false_eq_true, if_false]
      rw [wrap64_sub_mul _ _ 0, e, w64' (x := r) (by omega) (by omega), abs_eq r (by unfold I64; omega), abs_eq b (by unfold I64; omega)]
      simp only [Option.bind_some]
      rw [wu (x := mag b - mag r) (by unfold mag; split <;> split <;> omega) (by unfold mag; split <;> split <;> omega)]
      by_cases hu : (0 < b ∧ b - r ≤ r) ∨ (b < 0 ∧ r ≤ b - r)
      · rw [if_pos hu] at hs
        rw [if_pos (by unfold mag; split <;> split <;> omega)]
        rw [hs] at hd ⊢
        rw [w64 hd]
      · rw [if_neg hu] at hs
        rw [if_neg (by unfold mag; split <;> split <;> omega), hs]

/-! words of 64 bits -/
end Go.Proofs.Ytlpfepcmpccbeaa.NM
/-
  Unit values, roots and long division: the printed functions come to the plain arithmetic.
-/
namespace Go.Proofs.Ytlpfepcmpccbeaa.NM
open Go.RowKit Go.Proofs.Ytlpfepcmpccbeaa.PNum Go.Proofs.YtlpfepcmpccbeaaW.PrintWords Go.Proofs.YtlpfepcmpccbeaaW.PrintLast Go.Proofs.YtlpfepcmpccbeaaW.PrintMore
set_option linter.unusedVariables false

/-! unit values -/
def unitS (x : Int) : Int := min 65535 (max x 0)
def clampS (x lo hi : Int) : Int := min hi (max x lo)
def mulS (a b : Int) : Int := (2 * (unitS a * unitS b) + 65535) / 131070
def quoS (a b : Int) : Int := if unitS b = 0 then 0 else min 65535 ((2 * (unitS a * 65535) + unitS b) / (2 * unitS b))
def lerpS (a b t : Int) : Int := (2 * (clampS a (-1099511627776) 1099511627776 * (65535 - unitS t) + clampS b (-1099511627776) 1099511627776 * unitS t) + 65535) / 131070

theorem mn_min (a b : Int) : mn a b = min a b := by unfold mn; split <;> omega
theorem mx_max (a b : Int) : mx a b = max a b := by unfold mx; split <;> omega
theorem clampS_range (x : Int) {lo hi : Int} (h : lo ≤ hi) : lo ≤ clampS x lo hi ∧ clampS x lo hi ≤ hi := by unfold clampS; omega

theorem clamp_eq (x lo hi : Int) : num_Clamp.f x lo hi = some (clampS x lo hi) := by unfold num_Clamp.f clampS; rw [mn_min, mx_max]
theorem rclamp_eq (x lo hi : Int) : imageeditorref01_Clamp.f x lo hi = some (clampS x lo hi) := by unfold imageeditorref01_Clamp.f clampS; rw [mn_min, mx_max]
theorem runit_eq (x : Int) : imageeditorref01_Unit.f x = some (unitS x) := by unfold imageeditorref01_Unit.f; rw [rclamp_eq]; rfl

/-! a magnitude with a sign -/
theorem signed_eq (n : Int) (hn : U64 n) (m : Bool) : ∃ k, num_signed.f k n m = some (signedS n m) := by
  refine ⟨1, ?_⟩
  unfold U64 at hn
  unfold num_signed.f signedS
  cases m
  · simp only [Bool.false_eq_true, if_false, num_signed.j0]
    split
    · rfl
    · rw [w64' (by omega) (by omega)]
  · simp only [if_true, num_signed.j0]
    by_cases h : n > 9223372036854775807
    · simp only [h, decide_true, if_true]
      rw [if_pos (by omega)]
    · simp only [h, decide_false, Bool.false_eq_true, if_false]
      rw [if_neg (by omega), w64' (x := n) (by omega) (by omega), w64' (by omega) (by omega)]
/-! roots -/
def sqrtS (n : Int) : Int := (rootN n.toNat : Nat)
def hypotS (x y : Int) : Int := (rootN (x * x + y * y).toNat : Nat)

end Go.Proofs.Ytlpfepcmpccbeaa.NM
/-
  The reference's long division of 128 bits is division.
-/
namespace Go.Proofs.Ytlpfepcmpccbeaa.NM
open Go.RowKit Go.Proofs.Ytlpfepcmpccbeaa.PNum Go.Proofs.YtlpfepcmpccbeaaW.PrintWords Go.Proofs.YtlpfepcmpccbeaaW.PrintLast Go.Proofs.YtlpfepcmpccbeaaW.PrintMore
set_option linter.unusedVariables false

end Go.Proofs.Ytlpfepcmpccbeaa.NM
/-
  Contracts of package num and of its reference, said in plain arithmetic: the functions that the print takes.
-/
namespace Go.Proofs.Ytlpfepcmpccbeaa.Spec
open Go.RowKit Go.Proofs.Ytlpfepcmpccbeaa.NM Go.Proofs.YtlpfepcmpccbeaaW.PrintWords Go.Proofs.YtlpfepcmpccbeaaW.PrintLast Go.Proofs.YtlpfepcmpccbeaaW.PrintMore
set_option linter.unusedVariables false

theorem div_any (a b : Int) (w : World) (ha : I64 a) (hb : I64 b) : Calls Try.prog 92 #[.int .i64 a, .int .i64 b] w fun e w' => e = .returned (.int .i64 (divS a b)) ∧ Drawn0 w w' := by
  obtain ⟨k, hk⟩ := div_eq a b ha hb; exact PNum.num_Div.calls k a b _ w hk
theorem rdiv_any (a b : Int) (w : World) (ha : I64 a) (hb : I64 b) : Calls Try.prog 85 #[.int .i64 a, .int .i64 b] w fun e w' => e = .returned (.int .i64 (divS a b)) ∧ Drawn0 w w' := by
  obtain ⟨k, hk⟩ := rdiv_eq a b ha hb; exact PNum.imageeditorref01_Div.calls k a b _ w hk
theorem clamp_any (x lo hi : Int) (w : World) : Calls Try.prog 91 #[.int .i64 x, .int .i64 lo, .int .i64 hi] w fun e w' => e = .returned (.int .i64 (clampS x lo hi)) ∧ Below w.heap.size w w' := PNum.num_Clamp.calls x lo hi _ w (clamp_eq x lo hi)
theorem size_any (a : Int) (w : World) (ha : I64 a) : Calls Try.prog 95 #[.int .i64 a] w fun e w' => e = .returned (.int .u64 (mag a)) ∧ Drawn0 w w' := PNum.num_size.calls a _ w (size_eq a ha)
theorem signed_any (n : Int) (m : Bool) (w : World) (hn : U64 n) : Calls Try.prog 96 #[.int .u64 n, .bool m] w fun e w' => e = .returned (.int .i64 (signedS n m)) ∧ Drawn0 w w' := by
  obtain ⟨k, hk⟩ := signed_eq n hn m; exact PNum.num_signed.calls k n m _ w hk
end Go.Proofs.Ytlpfepcmpccbeaa.Spec
/-
  Fixed and Ratio, of package num and of its reference: what they compute, walked by hand.
-/
namespace Go.Proofs.Ytlpfepcmpccbeaa.Spec
open Go.RowKit Go.Proofs.Ytlpfepcmpccbeaa.NM Go.Proofs.YtlpfepcmpccbeaaW.PrintWords Go.Proofs.YtlpfepcmpccbeaaW.PrintLast Go.Proofs.YtlpfepcmpccbeaaW.PrintMore
set_option linter.unusedVariables false

end Go.Proofs.Ytlpfepcmpccbeaa.Spec
/-
  Ratio of package num and of its reference.
-/
namespace Go.Proofs.Ytlpfepcmpccbeaa.Spec
open Go.RowKit Go.Proofs.Ytlpfepcmpccbeaa.NM Go.Proofs.YtlpfepcmpccbeaaW.PrintWords Go.Proofs.YtlpfepcmpccbeaaW.PrintLast Go.Proofs.YtlpfepcmpccbeaaW.PrintMore
set_option linter.unusedVariables false

theorem ret_int {k : IntKind} {a b : Int} (h : a = b) : Ending.returned (.int k a) = .returned (.int k b) := by rw [h]
/-- k rounds of doubling on: the quotient q and the rest r of n times 2^k by d -/
def RI (n d : Int) (k : Nat) (q r : Int) : Prop := n * ((2 ^ k : Nat) : Int) = d * q + r
theorem ri_start (n d : Int) : RI n d 0 (n / d) (n % d) := by
  unfold RI
  have := Int.mul_ediv_add_emod n d
  simp; omega
theorem pow_dbl (k : Nat) : ((2 ^ (k + 1) : Nat) : Int) = 2 * ((2 ^ k : Nat) : Int) := by rw [Nat.pow_succ]; omega
theorem ri_low {n d q r : Int} {k : Nat} (h : RI n d k q r) : RI n d (k + 1) (2 * q) (2 * r) := by
  unfold RI at *; rw [pow_dbl]; grind
theorem ri_high {n d q r : Int} {k : Nat} (h : RI n d k q r) : RI n d (k + 1) (2 * q + 1) (2 * r - d) := by
  unfold RI at *; rw [pow_dbl]; grind
theorem ri_early {a b q r : Int} {k : Nat} (h : RI (mag a) (mag b) k q r) (hk : k ≤ 16) (hb : b ≠ 0) (hq : 9223372036854775808 ≤ q) (h0 : 0 ≤ r) (h1 : r < mag b) : signedS q (minusB a b) = ratioS a b := by
  unfold RI at h
  have hp : ((2 ^ k : Nat) : Int) * ((2 ^ (16 - k) : Nat) : Int) = 65536 := by
    rw [← Int.natCast_mul, ← Nat.pow_add, show k + (16 - k) = 16 from by omega]; rfl
  have hP : 1 ≤ ((2 ^ (16 - k) : Nat) : Int) := by have : 0 < 2 ^ (16 - k) := Nat.pow_pos (by omega); omega
  generalize ((2 ^ (16 - k) : Nat) : Int) = P at *
  have hd : 0 < mag b := by omega
  have e : mag a * 65536 = mag b * (q * P + r * P / mag b) + r * P % mag b := by
    have e1 := Int.mul_ediv_add_emod (r * P) (mag b)
    rw [← hp, ← Int.mul_assoc, h]
    grind
  have hm0 := Int.emod_nonneg (r * P) (show mag b ≠ 0 by omega)
  have hm1 := Int.emod_lt_of_pos (r * P) hd
  have hrP : 0 ≤ r * P / mag b := Int.ediv_nonneg (Int.mul_nonneg h0 (by omega)) (by omega)
  have hqP : q ≤ q * P := by
    have : q * 1 ≤ q * P := Int.mul_le_mul_of_nonneg_left hP (by omega)
    omega
  rw [ratioS_mag hb e hm0 hm1, signedS_sat _ (by omega)]
  unfold sat
  split <;> split <;> omega
theorem ri_up {a b q r : Int} (h : RI (mag a) (mag b) 16 q r) (hb : b ≠ 0) (hq : 0 ≤ q) (h0 : 0 ≤ r) (h1 : r < mag b) (m : Bool) (hm : minusB a b = m) (hu : mag b - r < r ∨ (r = mag b - r ∧ m = false)) : signedS (q + 1) m = ratioS a b := by
  subst hm
  rw [ratioS_mag hb (q := q) (r := r) (by unfold RI at h; exact h) h0 h1, signedS_sat _ (by omega)]
  congr 1
  split
  · rename_i hm
    rw [if_pos]
    rcases hu with hu | ⟨_, hu⟩
    · exact hu
    · simp [hm] at hu
  · rw [if_pos (by omega)]
theorem ri_down {a b q r : Int} (h : RI (mag a) (mag b) 16 q r) (hb : b ≠ 0) (hq : 0 ≤ q) (h0 : 0 ≤ r) (h1 : r < mag b) (m : Bool) (hm : minusB a b = m) (hu : ¬ (mag b - r < r ∨ (r = mag b - r ∧ m = false))) : signedS q m = ratioS a b := by
  subst hm
  rw [ratioS_mag hb (q := q) (r := r) (by unfold RI at h; exact h) h0 h1, signedS_sat _ (by omega)]
  congr 1
  split
  · rw [if_neg (by omega)]
  · rename_i hm
    rw [if_neg]
    intro hle
    exact hu (by
      by_cases hx : mag b - r < r
      · exact .inl hx
      · exact .inr ⟨by omega, by simpa using hm⟩)
theorem signedS_top (m : Bool) : signedS (18446744073709551615 + 1) m = signedS 18446744073709551615 m := by cases m <;> rfl

set_option maxHeartbeats 1000000 in
theorem ratio_any (a b : Int) (w : World) (ha : I64 a) (hb : I64 b) :
    Calls Try.prog 77 #[.int .i64 a, .int .i64 b] w fun e w' => e = .returned (.int .i64 (ratioS a b)) ∧ Drawn0 w w' := by
  by_cases hz : b = 0
  · subst hz
    have : ratioS a 0 = 0 := by unfold ratioS; simp
    rw [this]
    go_enter Try.func77, Try.ntmps77
    go_wp2
    go_ret
    exact ⟨rfl, Drawn0.refl _⟩
  · have hc0 : (b == 0) = false := by simpa using hz
    have hsa := fun w => size_any a w ha
    have hsb := fun w => size_any b w hb
    have hn0 := mag_nonneg a
    have hn1 := mag_le ha.1 ha.2
    have hd1 := mag_le hb.1 hb.2
    have hd0 : 1 ≤ mag b := by unfold mag; split <;> omega
    have hst := ri_start (mag a) (mag b)
    have hup := fun (q r : Int) (h : RI (mag a) (mag b) 16 q r) => ri_up h hz
    have hdown := fun (q r : Int) (h : RI (mag a) (mag b) 16 q r) => ri_down h hz
    have hearly := fun (k : Nat) (q r : Int) (h : RI (mag a) (mag b) k q r) (hk : k ≤ 16) => ri_early h hk hz
    generalize mag a = n at *
    generalize mag b = d at *
    generalize ratioS a b = R at *
    have hq0 : 0 ≤ n / d := Int.ediv_nonneg hn0 (by omega)
    have hq1 : n / d ≤ n := Int.ediv_le_self _ hn0
    have hr0 : 0 ≤ n % d := Int.emod_nonneg _ (by omega)
    have hr1 : n % d < d := Int.emod_lt_of_pos _ (by omega)
    have HSA := Lib.hid hsa
    have HSB := Lib.hid hsb
    have HST := Lib.hid hst
    have HUP := Lib.hid hup
    have HDOWN := Lib.hid hdown
    have HEARLY := Lib.hid hearly
    clear hsa hsb hst hup hdown hearly
    unfold I64 at ha hb
    obtain ⟨ha1, ha2⟩ := ha
    obtain ⟨hb1, hb2⟩ := hb
    by_cases hna : a < 0
    · by_cases hnb : b < 0
      · have hmB : minusB a b = false := by simp [minusB, hna, hnb]
        rw [hmB] at HEARLY
        have HM := Lib.hid hmB
        clear hmB
        go_enter Try.func77, Try.ntmps77
        go_wp2_with fail
        refine (HSA.out _).mono ?_; rintro e w' ⟨rfl, ⟨n1, rfl⟩⟩
        go_wp2_with fail
        refine (HSB.out _).mono ?_; rintro e w' ⟨rfl, ⟨n2, rfl⟩⟩
        go_wp2_with fail
        go_quiet (fail)
        go_wp2_with fail
        go_loop [4, 8, 9, 27] (fun _ v8 v9 v27 => ∃ (k : Nat) (q r : Int), k ≤ 16 ∧ v8 = .int .u64 q ∧ v9 = .int .u64 r ∧ v27 = .int .i64 k ∧ 0 ≤ q ∧ q < 18446744073709551616 ∧ 0 ≤ r ∧ r < d ∧ Hid (RI n d k q r)) (fun _ _ _ i => 16 - (intOf i).toNat)
        case atStart => exact ⟨0, n / d, n % d, by omega, rfl, rfl, rfl, hq0, by omega, hr0, hr1, HST.out⟩
        case round =>
          obtain ⟨k, q, r, hk, rfl, rfl, rfl, hqa, hqb, hra, hrb, hri⟩ := hrel
          clear hq0 hq1 hr0 hr1 HST HSA HSB hna hnb
          by_cases hk16 : k < 16
          · by_cases hbig : 9223372036854775807 < q
            · have hfin := HEARLY.out k q r hri.out hk (by omega) hra hrb
              have HFIN := Lib.hid hfin
              clear hfin
              go_wp2_with fail
              refine (signed_any _ _ _ ⟨hqa, hqb⟩).mono ?_; rintro e w' ⟨rfl, ⟨n4, rfl⟩⟩
              go_wp2
              go_ret
              exact ⟨ret_int HFIN.out, by repeat (first | exact Drawn0.refl _ | apply Drawn0.step)⟩
            · by_cases hge : d ≤ 2 * r
              · have hri' : Hid (RI n d (k + 1) (2 * q + 1) (2 * r - d)) := ri_high hri.out
                go_wp2
                go_round
                case rel => exact ⟨_, .int .u64 (2 * q + 1), .int .u64 (2 * r - d), .int .i64 ((k + 1 : Nat) : Int), ⟨k + 1, by omega, 2 * q + 1, rfl, 2 * r - d, rfl, rfl, by omega, by omega, by omega, by omega, hri'⟩, rfl, rfl, rfl, by go_num⟩
                case measure => simp [intOf]; omega
              · have hri' : Hid (RI n d (k + 1) (2 * q) (2 * r)) := ri_low hri.out
                go_wp2
                go_round
                case rel => exact ⟨_, .int .u64 (2 * q), .int .u64 (2 * r), .int .i64 ((k + 1 : Nat) : Int), ⟨k + 1, by omega, 2 * q, rfl, 2 * r, rfl, rfl, by omega, by omega, by omega, by omega, hri'⟩, rfl, rfl, rfl, by go_num⟩
                case measure => simp [intOf]; omega
          · obtain rfl : k = 16 := by omega
            by_cases hu : d - r ≤ r
            · have hfin := HUP.out q r hri.out hqa hra hrb false HM.out (by by_cases h : d - r < r; exact .inl h; exact .inr ⟨by omega, rfl⟩)
              by_cases htop : q = 18446744073709551615
              · have htopb : (q == 18446744073709551615) = true := by simp [htop]
                rw [htop, signedS_top, ← htop] at hfin
                clear htop
                have HFIN := Lib.hid hfin
                clear hfin HM HUP HDOWN HEARLY
                have hcase : ((r == d - r) = true ∧ r ≤ d - r) ∨ ((r == d - r) = false ∧ d - r < r) := by
                  by_cases h : r = d - r
                  · exact .inl ⟨by simpa using h, by omega⟩
                  · exact .inr ⟨by simpa using h, by omega⟩
                clear hu
                rcases hcase with ⟨hE, hu1⟩ | ⟨hE, hu1⟩
                all_goals go_wp2_with fail
                all_goals (refine (signed_any _ _ _ (by unfold U64; omega)).mono ?_; rintro e w' ⟨rfl, ⟨n4, rfl⟩⟩)
                all_goals go_wp2
                all_goals go_ret
                all_goals exact ⟨ret_int HFIN.out, by repeat (first | exact Drawn0.refl _ | apply Drawn0.step)⟩
              · have HFIN := Lib.hid hfin
                clear hfin HM HUP HDOWN HEARLY
                have hcase : ((r == d - r) = true ∧ r ≤ d - r) ∨ ((r == d - r) = false ∧ d - r < r) := by
                  by_cases h : r = d - r
                  · exact .inl ⟨by simpa using h, by omega⟩
                  · exact .inr ⟨by simpa using h, by omega⟩
                clear hu
                rcases hcase with ⟨hE, hu1⟩ | ⟨hE, hu1⟩
                all_goals go_wp2_with fail
                all_goals (refine (signed_any _ _ _ (by unfold U64; omega)).mono ?_; rintro e w' ⟨rfl, ⟨n4, rfl⟩⟩)
                all_goals go_wp2
                all_goals go_ret
                all_goals exact ⟨ret_int HFIN.out, by repeat (first | exact Drawn0.refl _ | apply Drawn0.step)⟩
            · have hfin := HDOWN.out q r hri.out hqa hra hrb false HM.out (fun h => by rcases h with h | h <;> omega)
              have HFIN := Lib.hid hfin
              clear hfin HM HUP HDOWN HEARLY
              have hu1 : ¬ d - r < r := by omega
              go_wp2_with fail
              (refine (signed_any _ _ _ (by unfold U64; omega)).mono ?_; rintro e w' ⟨rfl, ⟨n4, rfl⟩⟩)
              go_wp2
              go_ret
              exact ⟨ret_int HFIN.out, by repeat (first | exact Drawn0.refl _ | apply Drawn0.step)⟩
      · have hmB : minusB a b = true := by simp [minusB, hna, hnb]
        rw [hmB] at HEARLY
        have HM := Lib.hid hmB
        clear hmB
        go_enter Try.func77, Try.ntmps77
        go_wp2_with fail
        refine (HSA.out _).mono ?_; rintro e w' ⟨rfl, ⟨n1, rfl⟩⟩
        go_wp2_with fail
        refine (HSB.out _).mono ?_; rintro e w' ⟨rfl, ⟨n2, rfl⟩⟩
        go_wp2_with fail
        go_quiet (fail)
        go_wp2_with fail
        go_loop [4, 8, 9, 27] (fun _ v8 v9 v27 => ∃ (k : Nat) (q r : Int), k ≤ 16 ∧ v8 = .int .u64 q ∧ v9 = .int .u64 r ∧ v27 = .int .i64 k ∧ 0 ≤ q ∧ q < 18446744073709551616 ∧ 0 ≤ r ∧ r < d ∧ Hid (RI n d k q r)) (fun _ _ _ i => 16 - (intOf i).toNat)
        case atStart => exact ⟨0, n / d, n % d, by omega, rfl, rfl, rfl, hq0, by omega, hr0, hr1, HST.out⟩
        case round =>
          obtain ⟨k, q, r, hk, rfl, rfl, rfl, hqa, hqb, hra, hrb, hri⟩ := hrel
          clear hq0 hq1 hr0 hr1 HST HSA HSB hna hnb
          by_cases hk16 : k < 16
          · by_cases hbig : 9223372036854775807 < q
            · have hfin := HEARLY.out k q r hri.out hk (by omega) hra hrb
              have HFIN := Lib.hid hfin
              clear hfin
              go_wp2_with fail
              refine (signed_any _ _ _ ⟨hqa, hqb⟩).mono ?_; rintro e w' ⟨rfl, ⟨n4, rfl⟩⟩
              go_wp2
              go_ret
              exact ⟨ret_int HFIN.out, by repeat (first | exact Drawn0.refl _ | apply Drawn0.step)⟩
            · by_cases hge : d ≤ 2 * r
              · have hri' : Hid (RI n d (k + 1) (2 * q + 1) (2 * r - d)) := ri_high hri.out
                go_wp2
                go_round
                case rel => exact ⟨_, .int .u64 (2 * q + 1), .int .u64 (2 * r - d), .int .i64 ((k + 1 : Nat) : Int), ⟨k + 1, by omega, 2 * q + 1, rfl, 2 * r - d, rfl, rfl, by omega, by omega, by omega, by omega, hri'⟩, rfl, rfl, rfl, by go_num⟩
                case measure => simp [intOf]; omega
              · have hri' : Hid (RI n d (k + 1) (2 * q) (2 * r)) := ri_low hri.out
                go_wp2
                go_round
                case rel => exact ⟨_, .int .u64 (2 * q), .int .u64 (2 * r), .int .i64 ((k + 1 : Nat) : Int), ⟨k + 1, by omega, 2 * q, rfl, 2 * r, rfl, rfl, by omega, by omega, by omega, by omega, hri'⟩, rfl, rfl, rfl, by go_num⟩
                case measure => simp [intOf]; omega
          · obtain rfl : k = 16 := by omega
            by_cases hu : d - r < r
            · have hfin := HUP.out q r hri.out hqa hra hrb true HM.out (.inl hu)
              by_cases htop : q = 18446744073709551615
              · have htopb : (q == 18446744073709551615) = true := by simp [htop]
                rw [htop, signedS_top, ← htop] at hfin
                clear htop
                have HFIN := Lib.hid hfin
                clear hfin HM HUP HDOWN HEARLY
                go_wp2_with fail
                (refine (signed_any _ _ _ (by unfold U64; omega)).mono ?_; rintro e w' ⟨rfl, ⟨n4, rfl⟩⟩)
                go_wp2
                go_ret
                exact ⟨ret_int HFIN.out, by repeat (first | exact Drawn0.refl _ | apply Drawn0.step)⟩
              · have HFIN := Lib.hid hfin
                clear hfin HM HUP HDOWN HEARLY
                go_wp2_with fail
                (refine (signed_any _ _ _ (by unfold U64; omega)).mono ?_; rintro e w' ⟨rfl, ⟨n4, rfl⟩⟩)
                go_wp2
                go_ret
                exact ⟨ret_int HFIN.out, by repeat (first | exact Drawn0.refl _ | apply Drawn0.step)⟩
            · have hfin := HDOWN.out q r hri.out hqa hra hrb true HM.out (fun h => h.elim hu fun h => by simp at h)
              have HFIN := Lib.hid hfin
              clear hfin HM HUP HDOWN HEARLY
              have hcase : ((r == d - r) = true ∧ r ≤ d - r) ∨ ((r == d - r) = false ∧ r < d - r) := by
                by_cases h : r = d - r
                · exact .inl ⟨by simpa using h, by omega⟩
                · exact .inr ⟨by simpa using h, by omega⟩
              clear hu
              rcases hcase with ⟨hE, hu1⟩ | ⟨hE, hu1⟩
              all_goals go_wp2_with fail
              all_goals (refine (signed_any _ _ _ (by unfold U64; omega)).mono ?_; rintro e w' ⟨rfl, ⟨n4, rfl⟩⟩)
              all_goals go_wp2
              all_goals go_ret
              all_goals exact ⟨ret_int HFIN.out, by repeat (first | exact Drawn0.refl _ | apply Drawn0.step)⟩
    · by_cases hnb : b < 0
      · have hmB : minusB a b = true := by simp [minusB, hna, hnb]
        rw [hmB] at HEARLY
        have HM := Lib.hid hmB
        clear hmB
        go_enter Try.func77, Try.ntmps77
        go_wp2_with fail
        refine (HSA.out _).mono ?_; rintro e w' ⟨rfl, ⟨n1, rfl⟩⟩
        go_wp2_with fail
        refine (HSB.out _).mono ?_; rintro e w' ⟨rfl, ⟨n2, rfl⟩⟩
        go_wp2_with fail
        go_quiet (fail)
        go_wp2_with fail
        go_loop [4, 8, 9, 27] (fun _ v8 v9 v27 => ∃ (k : Nat) (q r : Int), k ≤ 16 ∧ v8 = .int .u64 q ∧ v9 = .int .u64 r ∧ v27 = .int .i64 k ∧ 0 ≤ q ∧ q < 18446744073709551616 ∧ 0 ≤ r ∧ r < d ∧ Hid (RI n d k q r)) (fun _ _ _ i => 16 - (intOf i).toNat)
        case atStart => exact ⟨0, n / d, n % d, by omega, rfl, rfl, rfl, hq0, by omega, hr0, hr1, HST.out⟩
        case round =>
          obtain ⟨k, q, r, hk, rfl, rfl, rfl, hqa, hqb, hra, hrb, hri⟩ := hrel
          clear hq0 hq1 hr0 hr1 HST HSA HSB hna hnb
          by_cases hk16 : k < 16
          · by_cases hbig : 9223372036854775807 < q
            · have hfin := HEARLY.out k q r hri.out hk (by omega) hra hrb
              have HFIN := Lib.hid hfin
              clear hfin
              go_wp2_with fail
              refine (signed_any _ _ _ ⟨hqa, hqb⟩).mono ?_; rintro e w' ⟨rfl, ⟨n4, rfl⟩⟩
              go_wp2
              go_ret
              exact ⟨ret_int HFIN.out, by repeat (first | exact Drawn0.refl _ | apply Drawn0.step)⟩
            · by_cases hge : d ≤ 2 * r
              · have hri' : Hid (RI n d (k + 1) (2 * q + 1) (2 * r - d)) := ri_high hri.out
                go_wp2
                go_round
                case rel => exact ⟨_, .int .u64 (2 * q + 1), .int .u64 (2 * r - d), .int .i64 ((k + 1 : Nat) : Int), ⟨k + 1, by omega, 2 * q + 1, rfl, 2 * r - d, rfl, rfl, by omega, by omega, by omega, by omega, hri'⟩, rfl, rfl, rfl, by go_num⟩
                case measure => simp [intOf]; omega
              · have hri' : Hid (RI n d (k + 1) (2 * q) (2 * r)) := ri_low hri.out
                go_wp2
                go_round
                case rel => exact ⟨_, .int .u64 (2 * q), .int .u64 (2 * r), .int .i64 ((k + 1 : Nat) : Int), ⟨k + 1, by omega, 2 * q, rfl, 2 * r, rfl, rfl, by omega, by omega, by omega, by omega, hri'⟩, rfl, rfl, rfl, by go_num⟩
                case measure => simp [intOf]; omega
          · obtain rfl : k = 16 := by omega
            by_cases hu : d - r < r
            · have hfin := HUP.out q r hri.out hqa hra hrb true HM.out (.inl hu)
              by_cases htop : q = 18446744073709551615
              · have htopb : (q == 18446744073709551615) = true := by simp [htop]
                rw [htop, signedS_top, ← htop] at hfin
                clear htop
                have HFIN := Lib.hid hfin
                clear hfin HM HUP HDOWN HEARLY
                go_wp2_with fail
                (refine (signed_any _ _ _ (by unfold U64; omega)).mono ?_; rintro e w' ⟨rfl, ⟨n4, rfl⟩⟩)
                go_wp2
                go_ret
                exact ⟨ret_int HFIN.out, by repeat (first | exact Drawn0.refl _ | apply Drawn0.step)⟩
              · have HFIN := Lib.hid hfin
                clear hfin HM HUP HDOWN HEARLY
                go_wp2_with fail
                (refine (signed_any _ _ _ (by unfold U64; omega)).mono ?_; rintro e w' ⟨rfl, ⟨n4, rfl⟩⟩)
                go_wp2
                go_ret
                exact ⟨ret_int HFIN.out, by repeat (first | exact Drawn0.refl _ | apply Drawn0.step)⟩
            · have hfin := HDOWN.out q r hri.out hqa hra hrb true HM.out (fun h => h.elim hu fun h => by simp at h)
              have HFIN := Lib.hid hfin
              clear hfin HM HUP HDOWN HEARLY
              have hcase : ((r == d - r) = true ∧ r ≤ d - r) ∨ ((r == d - r) = false ∧ r < d - r) := by
                by_cases h : r = d - r
                · exact .inl ⟨by simpa using h, by omega⟩
                · exact .inr ⟨by simpa using h, by omega⟩
              clear hu
              rcases hcase with ⟨hE, hu1⟩ | ⟨hE, hu1⟩
              all_goals go_wp2_with fail
              all_goals (refine (signed_any _ _ _ (by unfold U64; omega)).mono ?_; rintro e w' ⟨rfl, ⟨n4, rfl⟩⟩)
              all_goals go_wp2
              all_goals go_ret
              all_goals exact ⟨ret_int HFIN.out, by repeat (first | exact Drawn0.refl _ | apply Drawn0.step)⟩
      · have hmB : minusB a b = false := by simp [minusB, hna, hnb]
        rw [hmB] at HEARLY
        have HM := Lib.hid hmB
        clear hmB
        go_enter Try.func77, Try.ntmps77
        go_wp2_with fail
        refine (HSA.out _).mono ?_; rintro e w' ⟨rfl, ⟨n1, rfl⟩⟩
        go_wp2_with fail
        refine (HSB.out _).mono ?_; rintro e w' ⟨rfl, ⟨n2, rfl⟩⟩
        go_wp2_with fail
        go_quiet (fail)
        go_wp2_with fail
        go_loop [4, 8, 9, 27] (fun _ v8 v9 v27 => ∃ (k : Nat) (q r : Int), k ≤ 16 ∧ v8 = .int .u64 q ∧ v9 = .int .u64 r ∧ v27 = .int .i64 k ∧ 0 ≤ q ∧ q < 18446744073709551616 ∧ 0 ≤ r ∧ r < d ∧ Hid (RI n d k q r)) (fun _ _ _ i => 16 - (intOf i).toNat)
        case atStart => exact ⟨0, n / d, n % d, by omega, rfl, rfl, rfl, hq0, by omega, hr0, hr1, HST.out⟩
        case round =>
          obtain ⟨k, q, r, hk, rfl, rfl, rfl, hqa, hqb, hra, hrb, hri⟩ := hrel
          clear hq0 hq1 hr0 hr1 HST HSA HSB hna hnb
          by_cases hk16 : k < 16
          · by_cases hbig : 9223372036854775807 < q
            · have hfin := HEARLY.out k q r hri.out hk (by omega) hra hrb
              have HFIN := Lib.hid hfin
              clear hfin
              go_wp2_with fail
              refine (signed_any _ _ _ ⟨hqa, hqb⟩).mono ?_; rintro e w' ⟨rfl, ⟨n4, rfl⟩⟩
              go_wp2
              go_ret
              exact ⟨ret_int HFIN.out, by repeat (first | exact Drawn0.refl _ | apply Drawn0.step)⟩
            · by_cases hge : d ≤ 2 * r
              · have hri' : Hid (RI n d (k + 1) (2 * q + 1) (2 * r - d)) := ri_high hri.out
                go_wp2
                go_round
                case rel => exact ⟨_, .int .u64 (2 * q + 1), .int .u64 (2 * r - d), .int .i64 ((k + 1 : Nat) : Int), ⟨k + 1, by omega, 2 * q + 1, rfl, 2 * r - d, rfl, rfl, by omega, by omega, by omega, by omega, hri'⟩, rfl, rfl, rfl, by go_num⟩
                case measure => simp [intOf]; omega
              · have hri' : Hid (RI n d (k + 1) (2 * q) (2 * r)) := ri_low hri.out
                go_wp2
                go_round
                case rel => exact ⟨_, .int .u64 (2 * q), .int .u64 (2 * r), .int .i64 ((k + 1 : Nat) : Int), ⟨k + 1, by omega, 2 * q, rfl, 2 * r, rfl, rfl, by omega, by omega, by omega, by omega, hri'⟩, rfl, rfl, rfl, by go_num⟩
                case measure => simp [intOf]; omega
          · obtain rfl : k = 16 := by omega
            by_cases hu : d - r ≤ r
            · have hfin := HUP.out q r hri.out hqa hra hrb false HM.out (by by_cases h : d - r < r; exact .inl h; exact .inr ⟨by omega, rfl⟩)
              by_cases htop : q = 18446744073709551615
              · have htopb : (q == 18446744073709551615) = true := by simp [htop]
                rw [htop, signedS_top, ← htop] at hfin
                clear htop
                have HFIN := Lib.hid hfin
                clear hfin HM HUP HDOWN HEARLY
                have hcase : ((r == d - r) = true ∧ r ≤ d - r) ∨ ((r == d - r) = false ∧ d - r < r) := by
                  by_cases h : r = d - r
                  · exact .inl ⟨by simpa using h, by omega⟩
                  · exact .inr ⟨by simpa using h, by omega⟩
                clear hu
                rcases hcase with ⟨hE, hu1⟩ | ⟨hE, hu1⟩
                all_goals go_wp2_with fail
                all_goals (refine (signed_any _ _ _ (by unfold U64; omega)).mono ?_; rintro e w' ⟨rfl, ⟨n4, rfl⟩⟩)
                all_goals go_wp2
                all_goals go_ret
                all_goals exact ⟨ret_int HFIN.out, by repeat (first | exact Drawn0.refl _ | apply Drawn0.step)⟩
              · have HFIN := Lib.hid hfin
                clear hfin HM HUP HDOWN HEARLY
                have hcase : ((r == d - r) = true ∧ r ≤ d - r) ∨ ((r == d - r) = false ∧ d - r < r) := by
                  by_cases h : r = d - r
                  · exact .inl ⟨by simpa using h, by omega⟩
                  · exact .inr ⟨by simpa using h, by omega⟩
                clear hu
                rcases hcase with ⟨hE, hu1⟩ | ⟨hE, hu1⟩
                all_goals go_wp2_with fail
                all_goals (refine (signed_any _ _ _ (by unfold U64; omega)).mono ?_; rintro e w' ⟨rfl, ⟨n4, rfl⟩⟩)
                all_goals go_wp2
                all_goals go_ret
                all_goals exact ⟨ret_int HFIN.out, by repeat (first | exact Drawn0.refl _ | apply Drawn0.step)⟩
            · have hfin := HDOWN.out q r hri.out hqa hra hrb false HM.out (fun h => by rcases h with h | h <;> omega)
              have HFIN := Lib.hid hfin
              clear hfin HM HUP HDOWN HEARLY
              have hu1 : ¬ d - r < r := by omega
              go_wp2_with fail
              (refine (signed_any _ _ _ (by unfold U64; omega)).mono ?_; rintro e w' ⟨rfl, ⟨n4, rfl⟩⟩)
              go_wp2
              go_ret
              exact ⟨ret_int HFIN.out, by repeat (first | exact Drawn0.refl _ | apply Drawn0.step)⟩
end Go.Proofs.Ytlpfepcmpccbeaa.Spec
/-
  Ratio of the reference.
-/
namespace Go.Proofs.Ytlpfepcmpccbeaa.Spec
open Go.RowKit Go.Proofs.Ytlpfepcmpccbeaa.NM Go.Proofs.YtlpfepcmpccbeaaW.PrintWords Go.Proofs.YtlpfepcmpccbeaaW.PrintLast Go.Proofs.YtlpfepcmpccbeaaW.PrintMore
set_option linter.unusedVariables false

end Go.Proofs.Ytlpfepcmpccbeaa.Spec
/-
  The sine table, quarter turns, sines and Turn, of package num and of its reference.
-/
namespace Go.Proofs.Ytlpfepcmpccbeaa.Spec
open Go.RowKit Go.Proofs.Ytlpfepcmpccbeaa.NM Go.Proofs.YtlpfepcmpccbeaaW.PrintWords Go.Proofs.YtlpfepcmpccbeaaW.PrintLast Go.Proofs.YtlpfepcmpccbeaaW.PrintMore
set_option linter.unusedVariables false

def tabL : List Int := [0, 1608, 3216, 4821, 6424, 8022, 9616, 11204, 12785, 14359, 15924, 17479, 19024,
  20557, 22078, 23586, 25080, 26558, 28020, 29466, 30893, 32303, 33692, 35062, 36410, 37736,
  39040, 40320, 41576, 42806, 44011, 45190, 46341, 47464, 48559, 49624, 50660, 51665, 52639,
  53581, 54491, 55368, 56212, 57022, 57798, 58538, 59244, 59914, 60547, 61145, 61705, 62228,
  62714, 63162, 63572, 63944, 64277, 64571, 64827, 65043, 65220, 65358, 65457, 65516, 65536]
def tabF (j : Nat) : Int := tabL.getD j 0
def quarterS (u : Int) : Int := if u = 16384 then 65536 else tabF (u / 256).toNat + divS ((tabF ((u / 256).toNat + 1) - tabF (u / 256).toNat) * (u % 256)) 256

def tabV : Array Value := (tabL.map (Value.int .i64)).toArray
theorem wpList_build_as {P : Program} {ops : Array Oper} {rest : List Oper} {o : Oper} {a : Act} {w : World} {Q : Exit → Act → World → Prop} (hg : o.guard = none) (t : TypeId) (parts : Array (Nat × Operand)) (ho : o.op = .build t parts)
    (cells : Array Value) (hc : P.built t (parts.map fun (i, x) => (i, a.eval x)).toList = some cells)
    (h : wpList P ops Q rest (a.put o.dst (.agg cells)) w) : wpList P ops Q (o :: rest) a w :=
  wpList_build hg t parts ho (by rw [hc]; rfl) (by rw [hc]; exact h)

/-! the reference -/
def sineS (a : Int) : Int := if a / 16384 = 0 then quarterS (a % 16384) else if a / 16384 = 1 then quarterS (16384 - a % 16384) else if a / 16384 = 2 then -quarterS (a % 16384) else -quarterS (16384 - a % 16384)

end Go.Proofs.Ytlpfepcmpccbeaa.Spec
