/-
  Plain arithmetic on whole numbers: rounded quotients, saturated numbers, roots. No program in sight.
-/
namespace Go.Proofs.Yteehnbgkgdhgaaa.NM
set_option linter.unusedVariables false


/-! floor and rounded quotients -/
def minI : Int := -9223372036854775808
def maxI : Int := 9223372036854775807

def floorS (a b : Int) : Int := if b = 0 then 0 else if b = -1 then (if a = -9223372036854775808 then 9223372036854775807 else -a) else a.fdiv b
def divS (a b : Int) : Int := if b = 0 then 0 else if b = -1 then (if a = -9223372036854775808 then 9223372036854775807 else -a) else (2 * a + b).fdiv (2 * b)

/-- the floor q, r of a by b -/
theorem fdiv_spec (a b : Int) (hb : b ≠ 0) : ∃ r, a = b * a.fdiv b + r ∧ ((0 < b → 0 ≤ r ∧ r < b) ∧ (b < 0 → b < r ∧ r ≤ 0)) := by
  refine ⟨a.fmod b, ?_, ?_, ?_⟩
  · have := Int.mul_fdiv_add_fmod a b; omega
  · intro h
    exact ⟨Int.fmod_nonneg_of_pos a h, Int.fmod_lt_of_pos a h⟩
  · intro h
    have h1 := Int.neg_fmod_neg (a := -a) (b := -b)
    simp only [Int.neg_neg] at h1
    have h2 := Int.fmod_nonneg_of_pos (-a) (b := -b) (by omega)
    have h3 := Int.fmod_lt_of_pos (-a) (b := -b) (by omega)
    omega

theorem fdiv_unique {a b q r : Int} (h : a = b * q + r) (hp : 0 < b → 0 ≤ r ∧ r < b) (hn : b < 0 → b < r ∧ r ≤ 0) (hb : b ≠ 0) : a.fdiv b = q := by
  obtain ⟨r', h', hp', hn'⟩ := fdiv_spec a b hb
  have e : b * (a.fdiv b - q) = r - r' := by rw [Int.mul_sub]; omega
  by_cases hz : a.fdiv b - q = 0
  · omega
  · exfalso
    have := Int.natAbs_mul b (a.fdiv b - q)
    rw [e] at this
    have h1 : 1 ≤ (a.fdiv b - q).natAbs := by omega
    have h2 : b.natAbs * 1 ≤ b.natAbs * (a.fdiv b - q).natAbs := Nat.mul_le_mul_left _ h1
    rcases Int.lt_or_gt_of_ne hb with hl | hg
    · have := hn hl; have := hn' hl; omega
    · have := hp hg; have := hp' hg; omega

/-- tdiv's parts -/
theorem tdiv_spec (a b : Int) : a = b * a.tdiv b + a.tmod b := by
  have := Int.mul_tdiv_add_tmod a b; omega


theorem divS_up {a b q r : Int} (h : a = b * q + r) (hp : 0 < b → 0 ≤ r ∧ r < b) (hn : b < 0 → b < r ∧ r ≤ 0) (hb : b ≠ 0)
    (hu : (0 < b ∧ b - r ≤ r) ∨ (b < 0 ∧ r ≤ b - r)) : (2 * a + b).fdiv (2 * b) = q + 1 := by
  refine fdiv_unique (r := 2 * r - b) ?_ ?_ ?_ (by omega)
  · rw [h]; grind
  · intro h0; have := hp (by omega); omega
  · intro h0; have := hn (by omega); omega

theorem divS_down {a b q r : Int} (h : a = b * q + r) (hp : 0 < b → 0 ≤ r ∧ r < b) (hn : b < 0 → b < r ∧ r ≤ 0) (hb : b ≠ 0)
    (hu : ¬ ((0 < b ∧ b - r ≤ r) ∨ (b < 0 ∧ r ≤ b - r))) : (2 * a + b).fdiv (2 * b) = q := by
  refine fdiv_unique (r := 2 * r + b) ?_ ?_ ?_ (by omega)
  · rw [h]; grind
  · intro h0; have := hp (by omega); omega
  · intro h0; have := hn (by omega); omega

/-! roots -/
def rootBits (n : Nat) : Nat → Nat → Nat
  | 0, r => r
  | k + 1, r => if (r + 2 ^ k) * (r + 2 ^ k) ≤ n then rootBits n k (r + 2 ^ k) else rootBits n k r

theorem rootBits_spec (n : Nat) : ∀ (k r : Nat), r * r ≤ n →
    r ≤ rootBits n k r ∧ rootBits n k r < r + 2 ^ k ∧ rootBits n k r * rootBits n k r ≤ n ∧
    (rootBits n k r = r + 2 ^ k - 1 ∨ n < (rootBits n k r + 1) * (rootBits n k r + 1)) := by
  intro k
  induction k with
  | zero => intro r h; simp [rootBits]; omega
  | succ k ih =>
    intro r h
    have h2 : 2 ^ (k + 1) = 2 ^ k + 2 ^ k := by rw [Nat.pow_succ]; omega
    have hpos : 0 < 2 ^ k := Nat.pow_pos (by omega)
    unfold rootBits
    split
    · rename_i hle
      obtain ⟨a, b, c, d⟩ := ih _ hle
      refine ⟨by omega, by omega, c, ?_⟩
      rcases d with d | d
      · left; omega
      · right; exact d
    · rename_i hle
      obtain ⟨a, b, c, d⟩ := ih _ h
      refine ⟨a, by omega, c, ?_⟩
      rcases d with d | d
      · right
        have e : rootBits n k r + 1 = r + 2 ^ k := by omega
        rw [e]; omega
      · right; exact d

/-- the root, 63 bits -/
def rootN (n : Nat) : Nat := rootBits n 63 0

theorem sq_lt_of {a b : Nat} (h : a < b) : a * a < b * b := Nat.mul_self_lt_mul_self h
theorem sq_le_of {a b : Nat} (h : a ≤ b) : a * a ≤ b * b := Nat.mul_self_le_mul_self h
theorem le_of_sq {a b : Nat} (h : a * a ≤ b * b) : a ≤ b := by
  rcases Nat.lt_or_ge b a with h1 | h1
  · have := sq_lt_of h1; omega
  · exact h1
theorem lt_of_sq {a b : Nat} (h : a * a < b * b) : a < b := by
  rcases Nat.lt_or_ge a b with h1 | h1
  · exact h1
  · have := sq_le_of h1; omega

theorem rootN_le (n : Nat) : rootN n ≤ 9223372036854775807 := by
  have := (rootBits_spec n 63 0 (by omega)).2.1
  unfold rootN; omega
theorem rootN_sq (n : Nat) : rootN n * rootN n ≤ n := (rootBits_spec n 63 0 (by omega)).2.2.1
theorem rootN_lt (n : Nat) : rootN n = 9223372036854775807 ∨ n < (rootN n + 1) * (rootN n + 1) := by
  rcases (rootBits_spec n 63 0 (by omega)).2.2.2 with h | h
  · left; unfold rootN; omega
  · right; exact h
theorem rootN_unique {n r : Nat} (h : r * r ≤ n) (h1 : r ≤ 9223372036854775807) (h2 : r = 9223372036854775807 ∨ n < (r + 1) * (r + 1)) : rootN n = r := by
  have a := rootN_le n
  have b := rootN_sq n
  have c := rootN_lt n
  have d1 : rootN n ≤ r := by
    rcases h2 with h2 | h2
    · omega
    · have : rootN n * rootN n < (r + 1) * (r + 1) := by omega
      have := lt_of_sq this; omega
  have d2 : r ≤ rootN n := by
    rcases c with c | c
    · omega
    · have : r * r < (rootN n + 1) * (rootN n + 1) := by omega
      have := lt_of_sq this; omega
  omega
/-- bits from 2^63 down, then saturated -/
theorem rootN_64 (n : Nat) : rootN n = min (rootBits n 64 0) 9223372036854775807 := by
  obtain ⟨_, hb, hc, hd⟩ := rootBits_spec n 64 0 (by omega)
  by_cases h : rootBits n 64 0 ≤ 9223372036854775807
  · rw [Nat.min_eq_left h]
    exact rootN_unique hc h (by rcases hd with hd | hd <;> omega)
  · rw [Nat.min_eq_right (by omega)]
    refine rootN_unique ?_ (by omega) (.inl rfl)
    exact Nat.le_trans (sq_le_of (a := 9223372036854775807) (b := rootBits n 64 0) (by omega)) hc
/-- bits from 2^31 down -/
theorem rootN_32 (n : Nat) (h : n < 18446744073709551616) : rootN n = rootBits n 32 0 := by
  obtain ⟨_, hb, hc, hd⟩ := rootBits_spec n 32 0 (by omega)
  refine rootN_unique hc (by omega) ?_
  rcases hd with hd | hd
  · right; rw [hd]; omega
  · exact .inr hd
def sat (x : Int) : Int := max (-9223372036854775808) (min x 9223372036854775807)
def fixedS (a b : Int) : Int := sat ((a * b + 32768) / 65536)
def ratioS (a b : Int) : Int := if b = 0 then 0 else sat ((2 * (a * 65536) + b).fdiv (2 * b))

/-- a magnitude with a sign, saturated -/
def signedS (m : Int) (minus : Bool) : Int := if minus then (if 9223372036854775808 ≤ m then -9223372036854775808 else -m) else (if 9223372036854775807 < m then 9223372036854775807 else m)
theorem signedS_sat (m : Int) (h : 0 ≤ m) (minus : Bool) : signedS m minus = sat (if minus then -m else m) := by
  unfold signedS sat
  cases minus <;> simp <;> (try split) <;> omega

def mag (a : Int) : Int := if a < 0 then -a else a
def minusB (a b : Int) : Bool := (decide (a < 0)) != (decide (b < 0))

theorem mag_nonneg (a : Int) : 0 ≤ mag a := by unfold mag; split <;> omega
theorem mag_le {a : Int} (h1 : -9223372036854775808 ≤ a) (h2 : a ≤ 9223372036854775807) : mag a ≤ 9223372036854775808 := by unfold mag; split <;> omega

/-- the product of the magnitudes, with its sign -/
theorem mag_mul (a b : Int) : (if minusB a b then -(mag a * mag b) else mag a * mag b) = a * b := by
  unfold minusB mag
  by_cases h1 : a < 0 <;> by_cases h2 : b < 0 <;> simp [h1, h2, Int.neg_mul, Int.mul_neg]

theorem fixedS_mag (a b : Int) : fixedS a b = signedS ((mag a * mag b + (if minusB a b then 32767 else 32768)) / 65536) (minusB a b) := by
  have hm : 0 ≤ mag a * mag b := Int.mul_nonneg (mag_nonneg a) (mag_nonneg b)
  have e := mag_mul a b
  rw [signedS_sat _ (by split <;> omega)]
  unfold fixedS
  congr 1
  rw [← e]
  generalize mag a * mag b = m at hm
  cases minusB a b <;> simp <;> omega

/-- rounding the quotient of magnitudes -/
theorem ratioS_mag {a b q r : Int} (hb : b ≠ 0) (h : mag a * 65536 = mag b * q + r) (h0 : 0 ≤ r) (h1 : r < mag b) :
    ratioS a b = sat (if minusB a b then -(if mag b - r < r then q + 1 else q) else (if mag b - r ≤ r then q + 1 else q)) := by
  unfold ratioS
  rw [if_neg hb]
  congr 1
  unfold minusB mag at *
  by_cases ha : a < 0 <;> by_cases hb' : b < 0 <;> simp only [ha, hb', if_true, if_false, decide_true, decide_false, bne_self_eq_false, Bool.false_eq_true] at *
  · -- both negative: a*65536 = b*q - r
    split
    · exact divS_up (r := -r) (by grind) (by omega) (by omega) hb (by omega)
    · exact divS_down (r := -r) (by grind) (by omega) (by omega) hb (by omega)
  · -- a < 0 < b
    have hx : ((true != false) = true) := rfl
    rw [if_pos hx]
    by_cases hz : r = 0
    · subst hz
      rw [if_neg (by omega)]
      exact divS_down (r := 0) (by grind) (by omega) (by omega) hb (by omega)
    · split
      · exact divS_down (r := b - r) (q := -(q + 1)) (by grind) (by omega) (by omega) hb (by omega)
      · have := divS_up (a := a * 65536) (b := b) (r := b - r) (q := -(q + 1)) (by grind) (by omega) (by omega) hb (by omega)
        omega
  · have hx : ((false != true) = true) := rfl
    rw [if_pos hx]
    by_cases hz : r = 0
    · subst hz
      rw [if_neg (by omega)]
      exact divS_down (r := 0) (by grind) (by omega) (by omega) hb (by omega)
    · split
      · exact divS_down (r := b + r) (q := -(q + 1)) (by grind) (by omega) (by omega) hb (by omega)
      · have := divS_up (a := a * 65536) (b := b) (r := b + r) (q := -(q + 1)) (by grind) (by omega) (by omega) hb (by omega)
        omega
  · split
    · exact divS_up (r := r) (by grind) (by omega) (by omega) hb (by omega)
    · exact divS_down (r := r) (by grind) (by omega) (by omega) hb (by omega)

/-- a number of 64 bits, with a sign -/
def I64 (a : Int) : Prop := -9223372036854775808 ≤ a ∧ a ≤ 9223372036854775807
instance (a : Int) : Decidable (I64 a) := by unfold I64; exact inferInstance
/-- a number of 64 bits, without a sign -/
def U64 (a : Int) : Prop := 0 ≤ a ∧ a < 18446744073709551616
instance (a : Int) : Decidable (U64 a) := by unfold U64; exact inferInstance

theorem tmod_bounds (a b : Int) (hb : b ≠ 0) : (a.tmod b).natAbs < b.natAbs ∧ (0 ≤ a → 0 ≤ a.tmod b) ∧ (a ≤ 0 → a.tmod b ≤ 0) := by
  refine ⟨?_, fun h => Int.tmod_nonneg b h, fun h => ?_⟩
  · rw [Int.natAbs_tmod]
    exact Nat.mod_lt _ (by omega)
  · have h1 := Int.tmod_nonneg (a := -a) b (by omega)
    rw [Int.neg_tmod] at h1
    omega
theorem tdiv_natAbs (a b : Int) (hb : b ≠ 0) : (a.tdiv b).natAbs ≤ a.natAbs ∧ (2 ≤ b.natAbs → 2 * (a.tdiv b).natAbs ≤ a.natAbs) := by
  have e0 : (a.tdiv b).natAbs = a.natAbs / b.natAbs := Int.natAbs_tdiv a b
  rw [e0]
  refine ⟨Nat.div_le_self _ _, fun h => ?_⟩
  have h1 := Nat.div_mul_le_self a.natAbs b.natAbs
  have h2 := Nat.mul_le_mul_left (a.natAbs / b.natAbs) h
  omega
theorem tdiv_range {a b : Int} (ha : I64 a) (hb0 : b ≠ 0) (hb1 : b ≠ -1) : I64 (a.tdiv b) := by
  unfold I64 at *
  by_cases h1 : b = 1
  · subst h1; rw [Int.tdiv_one]; exact ha
  · have := (tdiv_natAbs a b hb0).2 (by omega)
    omega
theorem fdiv_range {a b : Int} (ha : I64 a) (hb0 : b ≠ 0) (hb1 : b ≠ -1) : I64 (a.fdiv b) := by
  unfold I64 at *
  by_cases h1 : b = 1
  · subst h1; rw [Int.fdiv_one]; exact ha
  · obtain ⟨r, h, hp, hn⟩ := fdiv_spec a b hb0
    have e : b * a.fdiv b = a - r := by omega
    have h2 := Int.natAbs_mul b (a.fdiv b)
    rw [e] at h2
    have h3 : 2 * (a.fdiv b).natAbs ≤ b.natAbs * (a.fdiv b).natAbs := Nat.mul_le_mul_right _ (by omega)
    rcases Int.lt_or_gt_of_ne hb0 with hl | hg
    · have := hn hl
      by_cases hq : (a.fdiv b).natAbs ≤ 4611686018427387905
      · omega
      · have : b.natAbs * 4611686018427387906 ≤ b.natAbs * (a.fdiv b).natAbs := Nat.mul_le_mul_left _ (by omega)
        omega
    · have := hp hg
      by_cases hq : (a.fdiv b).natAbs ≤ 4611686018427387905
      · omega
      · have : b.natAbs * 4611686018427387906 ≤ b.natAbs * (a.fdiv b).natAbs := Nat.mul_le_mul_left _ (by omega)
        omega
theorem fdiv_tdiv (a b : Int) (hb : b ≠ 0) : a.fdiv b = if a.tmod b = 0 then a.tdiv b else if ((decide (a < 0)) != (decide (b < 0))) = true then a.tdiv b - 1 else a.tdiv b := by
  obtain ⟨h1, h2, h3⟩ := tmod_bounds a b hb
  have h4 := tdiv_spec a b
  split
  · exact fdiv_unique (r := 0) (by omega) (by omega) (by omega) hb
  · split
    · rename_i h0 hs
      refine fdiv_unique (r := a.tmod b + b) (by rw [Int.mul_sub]; omega) ?_ ?_ hb
      · intro hp
        have ha : a < 0 := by
          by_cases ha : a < 0
          · exact ha
          · simp [ha, show ¬ b < 0 by omega] at hs
        have := h3 (by omega); omega
      · intro hp
        have ha : ¬ a < 0 := by
          intro ha; simp [ha, hp] at hs
        have := h2 (by omega); omega
    · rename_i h0 hs
      refine fdiv_unique (r := a.tmod b) (by omega) ?_ ?_ hb
      · intro hp
        have ha : ¬ a < 0 := by
          intro ha; simp [ha, show ¬ b < 0 by omega] at hs
        have := h2 (by omega); omega
      · intro hp
        have ha : a < 0 := by
          by_cases ha : a < 0
          · exact ha
          · simp [ha, hp] at hs
        have := h3 (by omega); omega
theorem floorS_range {a b : Int} (ha : I64 a) : I64 (floorS a b) := by
  unfold floorS
  split
  · unfold I64; omega
  · split
    · unfold I64 at *; split <;> omega
    · exact fdiv_range ha (by omega) (by omega)
theorem divS_step {a b : Int} (hb0 : b ≠ 0) (hb1 : b ≠ -1) :
    divS a b = if (0 < b ∧ b - (a - a.fdiv b * b) ≤ a - a.fdiv b * b) ∨ (b < 0 ∧ a - a.fdiv b * b ≤ b - (a - a.fdiv b * b)) then a.fdiv b + 1 else a.fdiv b := by
  unfold divS
  rw [if_neg hb0, if_neg hb1]
  obtain ⟨r, h, hp, hn⟩ := fdiv_spec a b hb0
  have e : a - a.fdiv b * b = r := by rw [Int.mul_comm]; omega
  rw [e]
  split
  · rename_i hu; exact divS_up h hp hn hb0 hu
  · rename_i hu; exact divS_down h hp hn hb0 hu
theorem divS_range {a b : Int} (ha : I64 a) : I64 (divS a b) := by
  by_cases hb0 : b = 0
  · subst hb0; unfold divS I64; simp
  · by_cases hb1 : b = -1
    · subst hb1; unfold divS; unfold I64 at *; simp only [if_neg hb0, if_true]; split <;> omega
    · have hf := fdiv_range ha hb0 hb1
      rw [divS_step hb0 hb1]
      split
      · rename_i hu
        by_cases h1 : b = 1
        · subst h1; exfalso; rw [Int.fdiv_one] at hu; omega
        · obtain ⟨r, h, hp, hn⟩ := fdiv_spec a b hb0
          have e : b * a.fdiv b = a - r := by omega
          have h2 := Int.natAbs_mul b (a.fdiv b)
          rw [e] at h2
          unfold I64 at *
          have : b.natAbs * 2 ≤ b.natAbs * (a.fdiv b).natAbs ∨ (a.fdiv b).natAbs < 2 := by
            by_cases hq : (a.fdiv b).natAbs < 2
            · exact .inr hq
            · exact .inl (Nat.mul_le_mul_left _ (by omega))
          by_cases hq : (a.fdiv b).natAbs ≤ 4611686018427387905
          · omega
          · have : b.natAbs * 4611686018427387906 ≤ b.natAbs * (a.fdiv b).natAbs := Nat.mul_le_mul_left _ (by omega)
            have hx : 2 * (a.fdiv b).natAbs ≤ b.natAbs * (a.fdiv b).natAbs := Nat.mul_le_mul_right _ (by omega)
            rcases Int.lt_or_gt_of_ne hb0 with hl | hg
            · have := hn hl; omega
            · have := hp hg; omega
      · exact hf
/-- with a positive divisor -/
theorem divS_pos {a b : Int} (hb : 0 < b) : divS a b = (2 * a + b) / (2 * b) := by
  unfold divS
  rw [if_neg (by omega), if_neg (by omega), Int.fdiv_eq_ediv_of_nonneg _ (by omega)]
theorem floorS_pos {a b : Int} (hb : 0 < b) : floorS a b = a / b := by
  unfold floorS
  rw [if_neg (by omega), if_neg (by omega), Int.fdiv_eq_ediv_of_nonneg _ (by omega)]

end Go.Proofs.Yteehnbgkgdhgaaa.NM
