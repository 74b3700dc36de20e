/-
  The chapter's examples, and the plain laws of division, units, fixed-point numbers, roots and turns.
-/
import Derived.Test.YteehnbgkgdhgaaaPNumAx1
namespace Go.Proofs.Yteehnbgkgdhgaaa.Pure
open Go.RowKit Go.Proofs.Yteehnbgkgdhgaaa.NM Go.Proofs.Yteehnbgkgdhgaaa.Spec Go.Proofs.Yteehnbgkgdhgaaa.Given Go.Proofs.Yteehnbgkgdhgaaa.PNumA Go.Proofs.YteehnbgkgdhgaaaW.PrintWords Go.Proofs.YteehnbgkgdhgaaaW.PrintLast
set_option linter.unusedVariables false

theorem example_true : imageeditorlaw01_example.f = some true := by decide +kernel

theorem wf_i64 {a : Int} (h : (Lit.int .i64 a).wf = true) : I64 a := by
  simp [Lit.wf, IntKind.min, IntKind.max, IntKind.signed, IntKind.bits] at h
  unfold I64; omega

theorem NumDivides : imageeditorlaw01_NumDivides.Pure := by
  intro a b x wa wb wx
  have ha := wf_i64 wa
  have hb := wf_i64 wb
  simp only [imageeditorlaw01_NumDivides.f, num_Floor.f, imageeditorref01_Floor.f, num_Div.f, imageeditorref01_Div.f, num_Clamp.f, imageeditorref01_Clamp.f, ha, hb, and_self, if_true, Option.bind_some, example_true]
theorem NumUnits : imageeditorlaw01_NumUnits.Pure := by
  intro a b t wa wb wt
  simp only [imageeditorlaw01_NumUnits.f, num_Mul.f, imageeditorref01_Mul.f, num_Quo.f, imageeditorref01_Quo.f, num_Lerp.f, imageeditorref01_Lerp.f, if_true, Option.bind_some, example_true]
theorem NumFixes : imageeditorlaw01_NumFixes.Pure := by
  intro a b wa wb
  have ha := wf_i64 wa
  have hb := wf_i64 wb
  simp only [imageeditorlaw01_NumFixes.f, num_Fixed.f, imageeditorref01_Fixed.f, num_Ratio.f, imageeditorref01_Ratio.f, ha, hb, and_self, if_true, Option.bind_some, example_true]
theorem NumRoots : imageeditorlaw01_NumRoots.Pure := by
  intro n x y wn wx wy
  have hn := wf_i64 wn
  have hx := wf_i64 wx
  have hy := wf_i64 wy
  simp only [imageeditorlaw01_NumRoots.f, num_Sqrt.f, imageeditorref01_Sqrt.f, num_Hypot.f, imageeditorref01_Hypot.f, hn, hx, hy, and_self, if_true, Option.bind_some, example_true]
theorem NumTurns : imageeditorlaw01_NumTurns.Pure := by
  intro a wa
  have ha := wf_i64 wa
  simp only [imageeditorlaw01_NumTurns.f, num_Turn.f, imageeditorref01_Turn.f, ha, if_true, Option.bind_some, example_true]
end Go.Proofs.Yteehnbgkgdhgaaa.Pure
