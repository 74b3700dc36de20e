/-
  What the law ProfileIdentity says, plain: the linear profile turns nothing.
-/
import Derived.Test.YtlpfepcmpccbeaaZV
namespace Go.Proofs.Ytlpfepcmpccbeaa.Lw
open Go.RowKit Go.Proofs.Ytlpfepcmpccbeaa.NM Go.Proofs.Ytlpfepcmpccbeaa.Cv Go.Proofs.Ytlpfepcmpccbeaa.Wi Go.Proofs.Ytlpfepcmpccbeaa.Nm9 Go.Proofs.Ytlpfepcmpccbeaa.Mx Go.Proofs.Ytlpfepcmpccbeaa.Pf Go.Proofs.Ytlpfepcmpccbeaa.Pt Go.Proofs.Ytlpfepcmpccbeaa.Aw
set_option linter.unusedVariables false

theorem lim_self {x : Int} (h0 : 0 ≤ x) (h1 : x ≤ 65535) : lim x = x := by
  unfold lim clampS
  repeat' split
  all_goals omega
theorem divS_mul (c d : Int) (hd : 0 < d) : divS (d * c) d = c := by
  unfold divS
  rw [if_neg (by omega), if_neg (by omega)]
  have h : 2 * (d * c) + d = d + 2 * d * c := by grind
  rw [h]
  have h2 : (d + 2 * d * c).fdiv (2 * d) = d.fdiv (2 * d) + c := by
    rw [Int.add_mul_fdiv_left _ _ (by omega)]
  rw [h2]
  have h3 : d.fdiv (2 * d) = 0 := by
    rw [Int.fdiv_eq_ediv_of_nonneg _ (by omega)]
    exact Int.ediv_eq_zero_of_lt (by omega) (by omega)
  omega
theorem linL_eq : linL = [⟨0, 0⟩, ⟨65535, 65535⟩] := by rfl
theorem linL_check : checkK linL = 0 := by decide +kernel
theorem at_lin {x : Int} (h0 : 0 ≤ x) (h1 : x ≤ 65535) : atK linL x = x := by
  have hc : clampS x 0 65535 = x := lim_self h0 h1
  unfold atK
  rw [if_pos linL_check, hc]
  have k0 : kx linL 0 = 0 := by rfl
  have k1 : kx linL 1 = 65535 := by rfl
  have y0 : ky linL 0 = 0 := by rfl
  have y1 : ky linL 1 = 65535 := by rfl
  have hl : linL.length = 2 := by rfl
  have e1 : idxFrom linL x 2 0 = if 65535 ≤ x then 2 else 1 := by
    show (if kx linL 0 ≤ x then (if kx linL 1 ≤ x then 2 else 1) else 0) = _
    rw [k0, k1, if_pos h0]
  rw [hl, e1]
  by_cases h : 65535 ≤ x
  · rw [if_pos h]
    unfold betw
    rw [if_neg (by omega), hl, if_pos rfl]
    show ky linL 1 = x
    rw [y1]; omega
  · rw [if_neg h]
    unfold betw
    rw [if_neg (by omega), hl, if_neg (by omega)]
    show ky linL 0 + divS ((ky linL 1 - ky linL 0) * (x - kx linL 0)) (kx linL 1 - kx linL 0) = x
    rw [y0, y1, k0, k1]
    have := divS_mul x 65535 (by omega)
    rw [show ((65535 : Int) - 0) * (x - 0) = 65535 * x by omega, show (65535 : Int) - 0 = 65535 by omega, this]
    omega
theorem stdM0 : stdM 0 = sameM := by unfold stdM; rw [if_pos rfl]
theorem okSame : okM sameM := by
  intro k hk
  unfold sameM
  split <;> omega
theorem apply_same (v : Nat → Int) (i : Nat) (hi : i < 3) : applyM sameM v i = clampS (v i) (-1073741824) 1073741824 := by
  unfold applyM
  rw [if_pos okSame]
  unfold imageM clampV
  have h : i = 0 ∨ i = 1 ∨ i = 2 := by omega
  rcases h with rfl | rfl | rfl
  · have := divS_mul (clampS (v 0) (-1073741824) 1073741824) 65536 (by omega)
    refine Eq.trans ?_ this; congr 1; unfold sameM; simp
  · have := divS_mul (clampS (v 1) (-1073741824) 1073741824) 65536 (by omega)
    refine Eq.trans ?_ this; congr 1; unfold sameM; simp
  · have := divS_mul (clampS (v 2) (-1073741824) 1073741824) 65536 (by omega)
    refine Eq.trans ?_ this; congr 1; unfold sameM; simp
theorem apply_unit (v : Nat → Int) (i : Nat) (hi : i < 3) (h0 : 0 ≤ v i) (h1 : v i ≤ 65535) : applyM sameM v i = v i := by
  rw [apply_same v i hi]
  unfold clampS
  repeat' split
  all_goals omega
theorem applyM_congr {m p : Nat → Int} (h : ∀ k, k < 9 → m k = p k) (v : Nat → Int) (i : Nat) (hi : i < 3) : applyM m v i = applyM p v i := by
  have ho : okM m ↔ okM p := ⟨fun hm k hk => by rw [← h k hk]; exact hm k hk, fun hp k hk => by rw [h k hk]; exact hp k hk⟩
  unfold applyM
  by_cases hm : okM m
  · rw [if_pos hm, if_pos (ho.1 hm)]
    unfold imageM
    rw [h (3 * i) (by omega), h (3 * i + 1) (by omega), h (3 * i + 2) (by omega)]
  · rw [if_neg hm, if_neg (fun hp => hm (ho.2 hp))]
theorem inv_same9 : ∀ k, k < 9 → invV sameM k = sameM k := by decide +kernel
theorem invK_lin : invK linL = linL := by rfl
theorem lin_id {r g b : Int} (hr : 0 ≤ r ∧ r ≤ 65535) (hg : 0 ≤ g ∧ g ≤ 65535) (hb : 0 ≤ b ∧ b ≤ 65535) (i : Nat) (hi : i < 3) : linP (stdN 0) linL (stdM 0) r g b i = ([r, g, b] : List Int).getD i 0 := by
  unfold linP
  rw [if_pos c_lin, stdM0]
  unfold linV
  have h : i = 0 ∨ i = 1 ∨ i = 2 := by omega
  have hv : ∀ x : Int, 0 ≤ x ∧ x ≤ 65535 → atK linL (lim x) = x := fun x hx => by rw [lim_self hx.1 hx.2, at_lin hx.1 hx.2]
  rcases h with rfl | rfl | rfl
  · rw [apply_unit _ 0 (by omega) (by show 0 ≤ atK linL (lim r); rw [hv r hr]; omega) (by show atK linL (lim r) ≤ _; rw [hv r hr]; omega)]; exact hv r hr
  · rw [apply_unit _ 1 (by omega) (by show 0 ≤ atK linL (lim g); rw [hv g hg]; omega) (by show atK linL (lim g) ≤ _; rw [hv g hg]; omega)]; exact hv g hg
  · rw [apply_unit _ 2 (by omega) (by show 0 ≤ atK linL (lim b); rw [hv b hb]; omega) (by show atK linL (lim b) ≤ _; rw [hv b hb]; omega)]; exact hv b hb
theorem enc_id {r g b a : Int} (hr : 0 ≤ r ∧ r ≤ 65535) (hg : 0 ≤ g ∧ g ≤ 65535) (hb : 0 ≤ b ∧ b ≤ 65535) (ha : 1 ≤ a ∧ a ≤ 65535) (i : Nat) (hi : i < 4) : encP (stdN 0) linL (stdM 0) (linP (stdN 0) linL (stdM 0) r g b) a i = ([r, g, b, a] : List Int).getD i 0 := by
  unfold encP
  rw [if_pos c_lin, stdM0, invK_lin]
  unfold encE
  rw [lim_self (x := a) (by omega) ha.2, if_neg (by omega)]
  by_cases h3 : i = 3
  · rw [if_pos h3, h3]; rfl
  · rw [if_neg h3, applyM_congr inv_same9 _ i (by omega)]
    have hl := fun j hj => lin_id hr hg hb j hj
    rw [stdM0] at hl
    have h : i = 0 ∨ i = 1 ∨ i = 2 := by omega
    rcases h with rfl | rfl | rfl
    · have e : linP (stdN 0) linL sameM r g b 0 = r := hl 0 (by omega)
      rw [apply_unit _ 0 (by omega) (by rw [e]; omega) (by rw [e]; omega), e, lim_self hr.1 hr.2, at_lin hr.1 hr.2]; rfl
    · have e : linP (stdN 0) linL sameM r g b 1 = g := hl 1 (by omega)
      rw [apply_unit _ 1 (by omega) (by rw [e]; omega) (by rw [e]; omega), e, lim_self hg.1 hg.2, at_lin hg.1 hg.2]; rfl
    · have e : linP (stdN 0) linL sameM r g b 2 = b := hl 2 (by omega)
      rw [apply_unit _ 2 (by omega) (by rw [e]; omega) (by rw [e]; omega), e, lim_self hb.1 hb.2, at_lin hb.1 hb.2]; rfl
/-- gray stays gray under the identity -/
theorem gray (nm : ByteArray) (l : List Kn) (r : Int) (i j : Nat) (hi : i < 3) (hj : j < 3) : linP nm l (stdM 0) r r r i = linP nm l (stdM 0) r r r j := by
  unfold linP
  rw [stdM0]
  by_cases h : profCheck nm l sameM = 0
  · rw [if_pos h]
    unfold linV
    rw [apply_same _ i hi, apply_same _ j hj]
    have hv : ∀ k, k < 3 → atK l (lim (([r, r, r] : List Int).getD k 0)) = atK l (lim r) := by
      intro k hk
      have h : k = 0 ∨ k = 1 ∨ k = 2 := by omega
      rcases h with rfl | rfl | rfl <;> rfl
    rw [hv i hi, hv j hj]
  · rw [if_neg h]
end Go.Proofs.Ytlpfepcmpccbeaa.Lw
