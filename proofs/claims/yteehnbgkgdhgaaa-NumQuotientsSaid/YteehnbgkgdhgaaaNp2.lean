/-
  The plain law of quotients: what Floor and Div leave.
-/
import Derived.Test.YteehnbgkgdhgaaaNp1
import Derived.Test.YteehnbgkgdhgaaaPNumQx1
namespace Go.Proofs.Yteehnbgkgdhgaaa.Pure
open Go.RowKit Go.Proofs.Yteehnbgkgdhgaaa.NM Go.Proofs.Yteehnbgkgdhgaaa.Spec Go.Proofs.Yteehnbgkgdhgaaa.Given Go.Proofs.Yteehnbgkgdhgaaa.PNumQ Go.Proofs.YteehnbgkgdhgaaaW.PrintWords Go.Proofs.YteehnbgkgdhgaaaW.PrintLast
set_option linter.unusedVariables false

theorem example_trueQ : PNumQ.imageeditorlaw01_example.f = some true := by decide +kernel

theorem floor_rest {a b : Int} (h0 : b ≠ 0) (hm : ¬ (b = -1 ∧ a = -9223372036854775808)) :
    ∃ r, a = b * floorS a b + r ∧ (0 < b → 0 ≤ r ∧ r < b) ∧ (b < 0 → b < r ∧ r ≤ 0) ∧ (divS a b = floorS a b ∨ divS a b = floorS a b + 1) := by
  by_cases h1 : b = -1
  · subst h1
    have : ¬ a = -9223372036854775808 := fun h => hm ⟨rfl, h⟩
    unfold floorS divS
    simp [this]
    exact ⟨0, by omega, by omega, by omega⟩
  · obtain ⟨r, h, hp, hn⟩ := fdiv_spec a b h0
    have e1 : floorS a b = a.fdiv b := by unfold floorS; rw [if_neg h0, if_neg h1]
    rw [e1]
    refine ⟨r, h, hp, hn, ?_⟩
    rw [divS_step h0 h1]
    split
    · exact .inr rfl
    · exact .inl rfl

theorem NumQuotients : imageeditorlaw01_NumQuotients.Pure := by
  intro a b wa wb
  have ha := wf_i64 wa
  have hb := wf_i64 wb
  refine ⟨2, ?_⟩
  unfold imageeditorlaw01_NumQuotients.f
  by_cases h0 : b = 0
  · rw [if_pos h0]; simp only [imageeditorlaw01_NumQuotients.j0, if_true, example_trueQ, Option.bind_some]
  · rw [if_neg h0]
    by_cases hm : b = -1 ∧ a = -9223372036854775808
    · obtain ⟨rfl, rfl⟩ := hm
      simp only [imageeditorlaw01_NumQuotients.j0, if_true, example_trueQ, Option.bind_some, beq_self_eq_true]
    · have hx : (if b = -1 then imageeditorlaw01_NumQuotients.j0 2 a b (a == -9223372036854775808) else imageeditorlaw01_NumQuotients.j0 2 a b false) = imageeditorlaw01_NumQuotients.j0 2 a b false := by
        split
        · rename_i h1
          have : (a == -9223372036854775808) = false := by simpa using fun h => hm ⟨h1, h⟩
          rw [this]
        · rfl
      rw [hx]
      obtain ⟨r, h, hp, hn, hd⟩ := floor_rest h0 hm
      have hf := floorS_range (b := b) ha
      have hdr := divS_range (b := b) ha
      have e : a - b * floorS a b = r := by omega
      unfold I64 at hb
      have er : wrap64 (a - wrap64 (b * floorS a b)) = r := by
        rw [wrap64_sub_mul _ _ 0, e, w64' (by omega) (by omega)]
      have hj1 : imageeditorlaw01_NumQuotients.j1 1 a b (floorS a b) false = some true := by
        simp only [imageeditorlaw01_NumQuotients.j1, Bool.false_eq_true, if_false, num_Div.f]
        rw [if_pos ⟨ha, hb⟩]
        simp only [Option.bind_some]
        rcases hd with hd | hd
        · rw [if_pos hd]; simp only [example_trueQ, Option.bind_some]
        · have : wrap64 (floorS a b + 1) = floorS a b + 1 := by rw [w64]; rw [← hd]; exact hdr
          rw [if_neg (by omega), this, if_pos hd]; simp only [example_trueQ, Option.bind_some]
      simp only [imageeditorlaw01_NumQuotients.j0, Bool.false_eq_true, if_false, num_Floor.f]
      rw [if_pos ⟨ha, hb⟩]
      simp only [Option.bind_some, er]
      by_cases hpos : b > 0
      · have := hp hpos
        rw [if_pos hpos, if_neg (by omega), if_neg (by omega), if_neg (by omega)]
        exact hj1
      · have := hn (by omega)
        rw [if_neg hpos, if_pos (by omega), if_neg (by omega), decide_eq_false (by omega)]
        exact hj1
end Go.Proofs.Yteehnbgkgdhgaaa.Pure
