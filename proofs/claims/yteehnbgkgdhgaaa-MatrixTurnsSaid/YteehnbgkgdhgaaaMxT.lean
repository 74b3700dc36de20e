/-
  Transposes: plain laws.
-/
import Derived.Test.YteehnbgkgdhgaaaMx9
namespace Go.Proofs.Yteehnbgkgdhgaaa.Mx
open Go.Proofs.Yteehnbgkgdhgaaa.NM
set_option linter.unusedVariables false

theorem nine {P : Nat → Prop} (h0 : P 0) (h1 : P 1) (h2 : P 2) (h3 : P 3) (h4 : P 4) (h5 : P 5) (h6 : P 6) (h7 : P 7) (h8 : P 8) : ∀ k, k < 9 → P k := by
  intro k hk
  have : k = 0 ∨ k = 1 ∨ k = 2 ∨ k = 3 ∨ k = 4 ∨ k = 5 ∨ k = 6 ∨ k = 7 ∨ k = 8 := by omega
  rcases this with rfl | rfl | rfl | rfl | rfl | rfl | rfl | rfl | rfl <;> assumption
theorem turn_turn (a : Nat → Int) : eqN 9 (turnM (turnM a)) a = true := eqN_true (nine rfl rfl rfl rfl rfl rfl rfl rfl rfl)
theorem ok_turn {a : Nat → Int} (h : okM a) : okM (turnM a) := fun k hk => h _ (by omega)
theorem ok_turn_iff (a : Nat → Int) : okM (turnM a) ↔ okM a := by
  constructor
  · intro h
    have := ok_turn h
    intro k hk
    have e : turnM (turnM a) k = a k := by
      have := of_decide_eq_true (turn_turn a) k hk
      exact this
    rw [← e]; exact this k hk
  · exact ok_turn
theorem dot_turn (a b : Nat → Int) (i j : Nat) (hi : i < 3) (hj : j < 3) : dot (turnM b) (turnM a) i j 3 = dot a b j i 3 := by
  have e : ∀ (m : Nat → Int) r c, r < 3 → c < 3 → turnM m (3 * r + c) = m (3 * c + r) := by
    intro m r c hr hc
    unfold turnM
    rw [show (3 * r + c) % 3 = c by omega, show (3 * r + c) / 3 = r by omega]
  simp only [dot]
  rw [e b i 0 hi (by omega), e b i 1 hi (by omega), e b i 2 hi (by omega), e a 0 j (by omega) hj, e a 1 j (by omega) hj, e a 2 j (by omega) hj]
  grind
theorem turn_mul (a b : Nat → Int) : eqN 9 (turnM (mulM a b)) (mulM (turnM b) (turnM a)) = true := by
  refine eqN_true fun k hk => ?_
  unfold mulM
  by_cases h : okM a ∧ okM b
  · rw [if_pos h, if_pos ⟨(ok_turn_iff b).2 h.2, (ok_turn_iff a).2 h.1⟩]
    show divS (dot a b ((3 * (k % 3) + k / 3) / 3) ((3 * (k % 3) + k / 3) % 3) 3) 65536 = divS (dot (turnM b) (turnM a) (k / 3) (k % 3) 3) 65536
    rw [dot_turn a b (k / 3) (k % 3) (by omega) (by omega), show (3 * (k % 3) + k / 3) / 3 = k % 3 by omega, show (3 * (k % 3) + k / 3) % 3 = k / 3 by omega]
  · rw [if_neg h, if_neg (fun hh => h ⟨(ok_turn_iff a).1 hh.2, (ok_turn_iff b).1 hh.1⟩)]
    rfl
theorem exact_turn (a : Nat → Int) : exactS (turnM a) = exactS a := by
  show a 0 * (a 4 * a 8 - a 7 * a 5) + a 3 * (a 7 * a 2 - a 1 * a 8) + a 6 * (a 1 * a 5 - a 4 * a 2) = a 0 * (a 4 * a 8 - a 5 * a 7) + a 1 * (a 5 * a 6 - a 3 * a 8) + a 2 * (a 3 * a 7 - a 4 * a 6)
  grind
theorem det_turn (a : Nat → Int) : detS (turnM a) = detS a := by
  unfold detS
  by_cases h : okM a
  · rw [if_pos h, if_pos ((ok_turn_iff a).2 h), exact_turn]
  · rw [if_neg h, if_neg (fun hh => h ((ok_turn_iff a).1 hh))]

end Go.Proofs.Yteehnbgkgdhgaaa.Mx
