/-
  The identity: plain laws.
-/
import Derived.Test.YteehnbgkgdhgaaaMx10
namespace Go.Proofs.Yteehnbgkgdhgaaa.Mx
open Go.Proofs.Yteehnbgkgdhgaaa.NM Go.Proofs.Yteehnbgkgdhgaaa.Spec
set_option linter.unusedVariables false

theorem inv_same_code : invCode sameM = 0 := by decide +kernel
theorem eq_inv_same : eqN 9 (invV sameM) sameM = true := by decide +kernel
theorem ok_same : okM sameM := by decide +kernel
theorem divS_mul (x : Int) : divS (x * 65536) 65536 = x := by
  unfold divS
  rw [if_neg (by omega), if_neg (by omega)]
  exact fdiv_unique (r := 65536) (by omega) (fun _ => by omega) (fun h => by omega) (by omega)
theorem clampV_id {c : Nat → Int} {k : Nat} (h : -1073741824 ≤ c k ∧ c k ≤ 1073741824) : clampV c k = c k := by
  unfold clampV clampS; omega
theorem apply_same {c : Nat → Int} (h : ∀ k, k < 3 → -1073741824 ≤ c k ∧ c k ≤ 1073741824) : eqN 3 (applyM sameM c) c = true := by
  refine eqN_true fun k hk => ?_
  unfold applyM
  rw [if_pos ok_same]
  unfold imageM
  rw [clampV_id (h 0 (by omega)), clampV_id (h 1 (by omega)), clampV_id (h 2 (by omega))]
  have : k = 0 ∨ k = 1 ∨ k = 2 := by omega
  have e : sameM (3 * k) * c 0 + sameM (3 * k + 1) * c 1 + sameM (3 * k + 2) * c 2 = c k * 65536 := by
    rcases this with rfl | rfl | rfl
    · show 65536 * c 0 + 0 * c 1 + 0 * c 2 = c 0 * 65536; omega
    · show 0 * c 0 + 65536 * c 1 + 0 * c 2 = c 1 * 65536; omega
    · show 0 * c 0 + 0 * c 1 + 65536 * c 2 = c 2 * 65536; omega
  rw [e, divS_mul]
theorem nine' {P : Nat → Prop} (h0 : P 0) (h1 : P 1) (h2 : P 2) (h3 : P 3) (h4 : P 4) (h5 : P 5) (h6 : P 6) (h7 : P 7) (h8 : P 8) : ∀ k, k < 9 → P k := by
  intro k hk
  have : k = 0 ∨ k = 1 ∨ k = 2 ∨ k = 3 ∨ k = 4 ∨ k = 5 ∨ k = 6 ∨ k = 7 ∨ k = 8 := by omega
  rcases this with rfl | rfl | rfl | rfl | rfl | rfl | rfl | rfl | rfl <;> assumption
theorem dot_same_r (m : Nat → Int) : ∀ k, k < 9 → dot m sameM (k / 3) (k % 3) 3 = m k * 65536 := by
  refine nine' ?_ ?_ ?_ ?_ ?_ ?_ ?_ ?_ ?_
  · show 0 + m 0 * 65536 + m 1 * 0 + m 2 * 0 = m 0 * 65536; omega
  · show 0 + m 0 * 0 + m 1 * 65536 + m 2 * 0 = m 1 * 65536; omega
  · show 0 + m 0 * 0 + m 1 * 0 + m 2 * 65536 = m 2 * 65536; omega
  · show 0 + m 3 * 65536 + m 4 * 0 + m 5 * 0 = m 3 * 65536; omega
  · show 0 + m 3 * 0 + m 4 * 65536 + m 5 * 0 = m 4 * 65536; omega
  · show 0 + m 3 * 0 + m 4 * 0 + m 5 * 65536 = m 5 * 65536; omega
  · show 0 + m 6 * 65536 + m 7 * 0 + m 8 * 0 = m 6 * 65536; omega
  · show 0 + m 6 * 0 + m 7 * 65536 + m 8 * 0 = m 7 * 65536; omega
  · show 0 + m 6 * 0 + m 7 * 0 + m 8 * 65536 = m 8 * 65536; omega
theorem dot_same_l (m : Nat → Int) : ∀ k, k < 9 → dot sameM m (k / 3) (k % 3) 3 = m k * 65536 := by
  refine nine' ?_ ?_ ?_ ?_ ?_ ?_ ?_ ?_ ?_
  · show 0 + 65536 * m 0 + 0 * m 3 + 0 * m 6 = m 0 * 65536; omega
  · show 0 + 65536 * m 1 + 0 * m 4 + 0 * m 7 = m 1 * 65536; omega
  · show 0 + 65536 * m 2 + 0 * m 5 + 0 * m 8 = m 2 * 65536; omega
  · show 0 + 0 * m 0 + 65536 * m 3 + 0 * m 6 = m 3 * 65536; omega
  · show 0 + 0 * m 1 + 65536 * m 4 + 0 * m 7 = m 4 * 65536; omega
  · show 0 + 0 * m 2 + 65536 * m 5 + 0 * m 8 = m 5 * 65536; omega
  · show 0 + 0 * m 0 + 0 * m 3 + 65536 * m 6 = m 6 * 65536; omega
  · show 0 + 0 * m 1 + 0 * m 4 + 65536 * m 7 = m 7 * 65536; omega
  · show 0 + 0 * m 2 + 0 * m 5 + 65536 * m 8 = m 8 * 65536; omega
theorem mul_same_r {m : Nat → Int} (h : okM m) : eqN 9 (mulM m sameM) m = true := by
  refine eqN_true fun k hk => ?_
  unfold mulM
  rw [if_pos ⟨h, ok_same⟩]
  unfold prodM
  rw [dot_same_r m k hk, divS_mul]
theorem mul_same_l {m : Nat → Int} (h : okM m) : eqN 9 (mulM sameM m) m = true := by
  refine eqN_true fun k hk => ?_
  unfold mulM
  rw [if_pos ⟨ok_same, h⟩]
  unfold prodM
  rw [dot_same_l m k hk, divS_mul]
theorem mul_bad_r {m : Nat → Int} (h : ¬ okM m) : mulM m sameM = fun _ => 0 := by
  unfold mulM; rw [if_neg (fun hh => h hh.1)]
theorem mul_bad_l {m : Nat → Int} (h : ¬ okM m) : mulM sameM m = fun _ => 0 := by
  unfold mulM; rw [if_neg (fun hh => h hh.2)]
end Go.Proofs.Yteehnbgkgdhgaaa.Mx
