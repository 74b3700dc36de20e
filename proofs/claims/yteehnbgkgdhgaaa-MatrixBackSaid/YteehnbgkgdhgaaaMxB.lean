/-
  The inverse times the matrix: plain laws.
-/
import Derived.Test.YteehnbgkgdhgaaaMxU
namespace Go.Proofs.Yteehnbgkgdhgaaa.Mx
open Go.Proofs.Yteehnbgkgdhgaaa.NM
set_option linter.unusedVariables false

theorem inv_parts {m : Nat → Int} (h : invCode m = 0) : okM m ∧ exactS m ≠ 0 ∧ invIn m := by
  unfold invCode at h
  by_cases h1 : okM m
  · rw [if_pos h1] at h
    by_cases h2 : exactS m = 0
    · rw [if_pos h2] at h; omega
    · rw [if_neg h2] at h
      by_cases h3 : invIn m
      · exact ⟨h1, h2, h3⟩
      · rw [if_neg h3] at h; omega
  · rw [if_neg h1] at h; omega
theorem invV_el {m : Nat → Int} (h : invCode m = 0) (i k : Nat) (hi : i < 3) (hk : k < 3) : invV m (3 * i + k) = invEl m i k := by
  unfold invV
  rw [if_pos h]
  show invEl m ((3 * i + k) / 3) ((3 * i + k) % 3) = _
  rw [show (3 * i + k) / 3 = i by omega, show (3 * i + k) % 3 = k by omega]
theorem invV_ok {m : Nat → Int} (h : invCode m = 0) : okM (invV m) := by
  intro k hk
  have := (inv_parts h).2.2 (k / 3) (by omega) (k % 3) (by omega)
  have e := invV_el h (k / 3) (k % 3) (by omega) (by omega)
  rw [show 3 * (k / 3) + k % 3 = k by omega] at e
  rw [e]; exact this
theorem el_close {m : Nat → Int} (h : invCode m = 0) (i k : Nat) (hi : i < 3) (hk : k < 3) :
    (2 * (exactS m * invEl m i k - minorS m k i * 4294967296)).natAbs ≤ (exactS m).natAbs := by
  obtain ⟨_, hd, hin⟩ := inv_parts h
  have hr := hin i hi k hk
  have he : invEl m i k = sat ((2 * (minorS m k i * 65536 * 65536) + exactS m).fdiv (2 * exactS m)) := by unfold invEl ratioS; rw [if_neg hd]
  rw [he] at hr ⊢
  generalize exactS m = d at *
  generalize minorS m k i = a at *
  clear he
  obtain ⟨r, h1, h2, h3⟩ := fdiv_spec (2 * (a * 65536 * 65536) + d) (2 * d) (by omega)
  generalize (2 * (a * 65536 * 65536) + d).fdiv (2 * d) = q at *
  have hq : sat q = q := by unfold sat at *; omega
  rw [hq]
  have h4 : 2 * d * q = 2 * (d * q) := by grind
  omega
/-- the size of the first k elements of a column -/
def sizeS (m : Nat → Int) (j : Nat) : Nat → Int
  | 0 => 0
  | k + 1 => sizeS m j k + (if m (3 * k + j) < -m (3 * k + j) then -m (3 * k + j) else m (3 * k + j))
theorem abs_if (x : Int) : (if x < -x then -x else x) = x.natAbs := by split <;> omega
theorem adj (m : Nat → Int) (i j : Nat) (hi : i < 3) (hj : j < 3) :
    minorS m 0 i * m j + minorS m 1 i * m (3 + j) + minorS m 2 i * m (6 + j) = if i = j then exactS m else 0 := by
  have hi' : i = 0 ∨ i = 1 ∨ i = 2 := by omega
  have hj' : j = 0 ∨ j = 1 ∨ j = 2 := by omega
  have f : exactS m = m 0 * (m 4 * m 8 - m 5 * m 7) + m 1 * (m 5 * m 6 - m 3 * m 8) + m 2 * (m 3 * m 7 - m 4 * m 6) := rfl
  have a0 : minorS m 0 0 = m 4 * m 8 - m 5 * m 7 := rfl
  have a1 : minorS m 1 0 = m 7 * m 2 - m 8 * m 1 := rfl
  have a2 : minorS m 2 0 = m 1 * m 5 - m 2 * m 4 := rfl
  have b0 : minorS m 0 1 = m 5 * m 6 - m 3 * m 8 := rfl
  have b1 : minorS m 1 1 = m 8 * m 0 - m 6 * m 2 := rfl
  have b2 : minorS m 2 1 = m 2 * m 3 - m 0 * m 5 := rfl
  have c0 : minorS m 0 2 = m 3 * m 7 - m 4 * m 6 := rfl
  have c1 : minorS m 1 2 = m 6 * m 1 - m 7 * m 0 := rfl
  have c2 : minorS m 2 2 = m 0 * m 4 - m 1 * m 3 := rfl
  rcases hi' with rfl | rfl | rfl <;> rcases hj' with rfl | rfl | rfl <;>
    simp only [f, a0, a1, a2, b0, b1, b2, c0, c1, c2, Nat.add_zero, Nat.reduceAdd, if_true, if_false, show ¬ (0 = 1) by decide, show ¬ (0 = 2) by decide, show ¬ (1 = 0) by decide, show ¬ (1 = 2) by decide, show ¬ (2 = 0) by decide, show ¬ (2 = 1) by decide] <;> grind
theorem back {m : Nat → Int} (h : invCode m = 0) (i j : Nat) (hi : i < 3) (hj : j < 3) :
    2 * ((dot (invV m) m i j 3 - (if i = j then 4294967296 else 0)).natAbs : Int) ≤ sizeS m j 3 := by
  have hd := (inv_parts h).2.1
  have ha := adj m i j hi hj
  have e0 := el_close h i 0 hi (by omega)
  have e1 := el_close h i 1 hi (by omega)
  have e2 := el_close h i 2 hi (by omega)
  have es : dot (invV m) m i j 3 = invEl m i 0 * m j + invEl m i 1 * m (3 + j) + invEl m i 2 * m (6 + j) := by
    simp only [dot]
    rw [invV_el h i 0 hi (by omega), invV_el h i 1 hi (by omega), invV_el h i 2 hi (by omega), show 3 * 0 + j = j by omega]
    rw [show 3 * 1 + j = 3 + j by omega, show 3 * 2 + j = 6 + j by omega]
    omega
  have ez : sizeS m j 3 = (m j).natAbs + (m (3 + j)).natAbs + (m (6 + j)).natAbs := by
    simp only [sizeS, abs_if]
    rw [show 3 * 0 + j = j by omega, show 3 * 1 + j = 3 + j by omega, show 3 * 2 + j = 6 + j by omega]
    omega
  rw [es, ez]
  generalize exactS m = d at *
  generalize minorS m 0 i = a0 at *
  generalize minorS m 1 i = a1 at *
  generalize minorS m 2 i = a2 at *
  generalize invEl m i 0 = t0 at *
  generalize invEl m i 1 = t1 at *
  generalize invEl m i 2 = t2 at *
  generalize m j = x0 at *
  generalize m (3 + j) = x1 at *
  generalize m (6 + j) = x2 at *
  clear es ez h
  obtain ⟨u, hu⟩ : ∃ u : Int, u = if i = j then 4294967296 else 0 := ⟨_, rfl⟩
  have hu' : (if i = j then d else 0) * 4294967296 = d * u := by rw [hu]; split <;> grind
  rw [← hu]
  generalize (if i = j then d else 0) = D at *
  have key : 2 * (d * (t0 * x0 + t1 * x1 + t2 * x2 - u)) = 2 * (d * t0 - a0 * 4294967296) * x0 + 2 * (d * t1 - a1 * 4294967296) * x1 + 2 * (d * t2 - a2 * 4294967296) * x2 := by
    grind
  generalize t0 * x0 + t1 * x1 + t2 * x2 - u = s at *
  generalize 2 * (d * t0 - a0 * 4294967296) = f0 at *
  generalize 2 * (d * t1 - a1 * 4294967296) = f1 at *
  generalize 2 * (d * t2 - a2 * 4294967296) = f2 at *
  have k1 : (2 * (d * s)).natAbs = d.natAbs * (2 * s.natAbs) := by rw [Int.natAbs_mul, Int.natAbs_mul]; show 2 * (d.natAbs * s.natAbs) = _; grind
  have k2 : (f0 * x0).natAbs ≤ d.natAbs * x0.natAbs := by rw [Int.natAbs_mul]; exact Nat.mul_le_mul_right _ e0
  have k3 : (f1 * x1).natAbs ≤ d.natAbs * x1.natAbs := by rw [Int.natAbs_mul]; exact Nat.mul_le_mul_right _ e1
  have k4 : (f2 * x2).natAbs ≤ d.natAbs * x2.natAbs := by rw [Int.natAbs_mul]; exact Nat.mul_le_mul_right _ e2
  have k5 : (2 * (d * s)).natAbs ≤ (f0 * x0).natAbs + (f1 * x1).natAbs + (f2 * x2).natAbs := by rw [key]; omega
  have k6 : d.natAbs * (2 * s.natAbs) ≤ d.natAbs * (x0.natAbs + x1.natAbs + x2.natAbs) := by rw [Nat.mul_add, Nat.mul_add]; omega
  have k7 := Nat.le_of_mul_le_mul_left k6 (by omega)
  omega

theorem sizeS_bound {m : Nat → Int} (h : okM m) (j : Nat) (hj : j < 3) : ∀ k : Nat, k ≤ 3 → 0 ≤ sizeS m j k ∧ sizeS m j k ≤ 1048576 * (k : Int)
  | 0, _ => by simp [sizeS]
  | k + 1, hk => by
    have ih := sizeS_bound h j hj k (by omega)
    have := h (3 * k + j) (by omega)
    simp only [sizeS]
    split <;> omega
end Go.Proofs.Yteehnbgkgdhgaaa.Mx
