/-
  The contracts of package num and of its reference, in the form of the print.
-/
import Derived.Test.YteehnbgkgdhgaaaNs5
namespace Go.Proofs.Yteehnbgkgdhgaaa.Given
open Go.RowKit Go.Proofs.Yteehnbgkgdhgaaa.NM Go.Proofs.Yteehnbgkgdhgaaa.Spec Go.Proofs.YteehnbgkgdhgaaaW.PrintWords Go.Proofs.YteehnbgkgdhgaaaW.PrintLast Go.Proofs.YteehnbgkgdhgaaaW.PrintMore
set_option linter.unusedVariables false

def num_Floor.f (a0 : Int) (a1 : Int) : Option (Int) := if I64 a0 ∧ I64 a1 then some (floorS a0 a1) else none
theorem num_Floor.calls (a0 : Int) (a1 : Int) (r : Int) (w : World) (h : num_Floor.f a0 a1 = some r) :
    Calls Try.prog 31 #[.int .i64 a0, .int .i64 a1] w fun e w' => e = .returned (.int .i64 r) ∧ Drawn0 w w' := by
  unfold num_Floor.f at h
  split at h
  · rename_i hg; injection h with h; subst h; exact floor_any a0 a1 w hg.1 hg.2
  · cases h
def imageeditorref01_Floor.f (a0 : Int) (a1 : Int) : Option (Int) := if I64 a0 ∧ I64 a1 then some (floorS a0 a1) else none
theorem imageeditorref01_Floor.calls (a0 : Int) (a1 : Int) (r : Int) (w : World) (h : imageeditorref01_Floor.f a0 a1 = some r) :
    Calls Try.prog 32 #[.int .i64 a0, .int .i64 a1] w fun e w' => e = .returned (.int .i64 r) ∧ Drawn0 w w' := by
  unfold imageeditorref01_Floor.f at h
  split at h
  · rename_i hg; injection h with h; subst h; exact rfloor_any a0 a1 w hg.1 hg.2
  · cases h
def num_Div.f (a0 : Int) (a1 : Int) : Option (Int) := if I64 a0 ∧ I64 a1 then some (divS a0 a1) else none
theorem num_Div.calls (a0 : Int) (a1 : Int) (r : Int) (w : World) (h : num_Div.f a0 a1 = some r) :
    Calls Try.prog 33 #[.int .i64 a0, .int .i64 a1] w fun e w' => e = .returned (.int .i64 r) ∧ Drawn0 w w' := by
  unfold num_Div.f at h
  split at h
  · rename_i hg; injection h with h; subst h; exact div_any a0 a1 w hg.1 hg.2
  · cases h
def imageeditorref01_Div.f (a0 : Int) (a1 : Int) : Option (Int) := if I64 a0 ∧ I64 a1 then some (divS a0 a1) else none
theorem imageeditorref01_Div.calls (a0 : Int) (a1 : Int) (r : Int) (w : World) (h : imageeditorref01_Div.f a0 a1 = some r) :
    Calls Try.prog 34 #[.int .i64 a0, .int .i64 a1] w fun e w' => e = .returned (.int .i64 r) ∧ Drawn0 w w' := by
  unfold imageeditorref01_Div.f at h
  split at h
  · rename_i hg; injection h with h; subst h; exact rdiv_any a0 a1 w hg.1 hg.2
  · cases h
def num_Fixed.f (a0 : Int) (a1 : Int) : Option (Int) := if I64 a0 ∧ I64 a1 then some (fixedS a0 a1) else none
theorem num_Fixed.calls (a0 : Int) (a1 : Int) (r : Int) (w : World) (h : num_Fixed.f a0 a1 = some r) :
    Calls Try.prog 44 #[.int .i64 a0, .int .i64 a1] w fun e w' => e = .returned (.int .i64 r) ∧ Drawn0 w w' := by
  unfold num_Fixed.f at h
  split at h
  · rename_i hg; injection h with h; subst h; exact fixed_any a0 a1 w hg.1 hg.2
  · cases h
def imageeditorref01_Fixed.f (a0 : Int) (a1 : Int) : Option (Int) := if I64 a0 ∧ I64 a1 then some (fixedS a0 a1) else none
theorem imageeditorref01_Fixed.calls (a0 : Int) (a1 : Int) (r : Int) (w : World) (h : imageeditorref01_Fixed.f a0 a1 = some r) :
    Calls Try.prog 45 #[.int .i64 a0, .int .i64 a1] w fun e w' => e = .returned (.int .i64 r) ∧ Drawn0 w w' := by
  unfold imageeditorref01_Fixed.f at h
  split at h
  · rename_i hg; injection h with h; subst h; exact rfixed_any a0 a1 w hg.1 hg.2
  · cases h
def num_Ratio.f (a0 : Int) (a1 : Int) : Option (Int) := if I64 a0 ∧ I64 a1 then some (ratioS a0 a1) else none
theorem num_Ratio.calls (a0 : Int) (a1 : Int) (r : Int) (w : World) (h : num_Ratio.f a0 a1 = some r) :
    Calls Try.prog 46 #[.int .i64 a0, .int .i64 a1] w fun e w' => e = .returned (.int .i64 r) ∧ Drawn0 w w' := by
  unfold num_Ratio.f at h
  split at h
  · rename_i hg; injection h with h; subst h; exact ratio_any a0 a1 w hg.1 hg.2
  · cases h
def imageeditorref01_Ratio.f (a0 : Int) (a1 : Int) : Option (Int) := if I64 a0 ∧ I64 a1 then some (ratioS a0 a1) else none
theorem imageeditorref01_Ratio.calls (a0 : Int) (a1 : Int) (r : Int) (w : World) (h : imageeditorref01_Ratio.f a0 a1 = some r) :
    Calls Try.prog 47 #[.int .i64 a0, .int .i64 a1] w fun e w' => e = .returned (.int .i64 r) ∧ Drawn0 w w' := by
  unfold imageeditorref01_Ratio.f at h
  split at h
  · rename_i hg; injection h with h; subst h; exact rratio_any a0 a1 w hg.1 hg.2
  · cases h
def num_Hypot.f (a0 : Int) (a1 : Int) : Option (Int) := if I64 a0 ∧ I64 a1 then some (hypotS a0 a1) else none
theorem num_Hypot.calls (a0 : Int) (a1 : Int) (r : Int) (w : World) (h : num_Hypot.f a0 a1 = some r) :
    Calls Try.prog 50 #[.int .i64 a0, .int .i64 a1] w fun e w' => e = .returned (.int .i64 r) ∧ Drawn0 w w' := by
  unfold num_Hypot.f at h
  split at h
  · rename_i hg; injection h with h; subst h; exact hypot_any a0 a1 w hg.1 hg.2
  · cases h
def imageeditorref01_Hypot.f (a0 : Int) (a1 : Int) : Option (Int) := if I64 a0 ∧ I64 a1 then some (hypotS a0 a1) else none
theorem imageeditorref01_Hypot.calls (a0 : Int) (a1 : Int) (r : Int) (w : World) (h : imageeditorref01_Hypot.f a0 a1 = some r) :
    Calls Try.prog 51 #[.int .i64 a0, .int .i64 a1] w fun e w' => e = .returned (.int .i64 r) ∧ Drawn0 w w' := by
  unfold imageeditorref01_Hypot.f at h
  split at h
  · rename_i hg; injection h with h; subst h; exact rhypot_any a0 a1 w hg.1 hg.2
  · cases h
def num_Mul.f (a0 : Int) (a1 : Int) : Option (Int) := some (mulS a0 a1)
theorem num_Mul.calls (a0 : Int) (a1 : Int) (r : Int) (w : World) (h : num_Mul.f a0 a1 = some r) :
    Calls Try.prog 38 #[.int .i64 a0, .int .i64 a1] w fun e w' => e = .returned (.int .i64 r) ∧ Below w.heap.size w w' := by
  unfold num_Mul.f at h
  injection h with h; subst h; exact mul_any a0 a1 w
def imageeditorref01_Mul.f (a0 : Int) (a1 : Int) : Option (Int) := some (mulS a0 a1)
theorem imageeditorref01_Mul.calls (a0 : Int) (a1 : Int) (r : Int) (w : World) (h : imageeditorref01_Mul.f a0 a1 = some r) :
    Calls Try.prog 39 #[.int .i64 a0, .int .i64 a1] w fun e w' => e = .returned (.int .i64 r) ∧ Below w.heap.size w w' := by
  unfold imageeditorref01_Mul.f at h
  injection h with h; subst h; exact rmul_any a0 a1 w
def num_Quo.f (a0 : Int) (a1 : Int) : Option (Int) := some (quoS a0 a1)
theorem num_Quo.calls (a0 : Int) (a1 : Int) (r : Int) (w : World) (h : num_Quo.f a0 a1 = some r) :
    Calls Try.prog 40 #[.int .i64 a0, .int .i64 a1] w fun e w' => e = .returned (.int .i64 r) ∧ Below w.heap.size w w' := by
  unfold num_Quo.f at h
  injection h with h; subst h; exact quo_any a0 a1 w
def imageeditorref01_Quo.f (a0 : Int) (a1 : Int) : Option (Int) := some (quoS a0 a1)
theorem imageeditorref01_Quo.calls (a0 : Int) (a1 : Int) (r : Int) (w : World) (h : imageeditorref01_Quo.f a0 a1 = some r) :
    Calls Try.prog 41 #[.int .i64 a0, .int .i64 a1] w fun e w' => e = .returned (.int .i64 r) ∧ Below w.heap.size w w' := by
  unfold imageeditorref01_Quo.f at h
  injection h with h; subst h; exact rquo_any a0 a1 w
def num_Clamp.f (a0 : Int) (a1 : Int) (a2 : Int) : Option (Int) := some (clampS a0 a1 a2)
theorem num_Clamp.calls (a0 : Int) (a1 : Int) (a2 : Int) (r : Int) (w : World) (h : num_Clamp.f a0 a1 a2 = some r) :
    Calls Try.prog 35 #[.int .i64 a0, .int .i64 a1, .int .i64 a2] w fun e w' => e = .returned (.int .i64 r) ∧ Below w.heap.size w w' := by
  unfold num_Clamp.f at h
  injection h with h; subst h; exact clamp_any a0 a1 a2 w
def imageeditorref01_Clamp.f (a0 : Int) (a1 : Int) (a2 : Int) : Option (Int) := some (clampS a0 a1 a2)
theorem imageeditorref01_Clamp.calls (a0 : Int) (a1 : Int) (a2 : Int) (r : Int) (w : World) (h : imageeditorref01_Clamp.f a0 a1 a2 = some r) :
    Calls Try.prog 36 #[.int .i64 a0, .int .i64 a1, .int .i64 a2] w fun e w' => e = .returned (.int .i64 r) ∧ Below w.heap.size w w' := by
  unfold imageeditorref01_Clamp.f at h
  injection h with h; subst h; exact rclamp_any a0 a1 a2 w
def num_Lerp.f (a0 : Int) (a1 : Int) (a2 : Int) : Option (Int) := some (lerpS a0 a1 a2)
theorem num_Lerp.calls (a0 : Int) (a1 : Int) (a2 : Int) (r : Int) (w : World) (h : num_Lerp.f a0 a1 a2 = some r) :
    Calls Try.prog 42 #[.int .i64 a0, .int .i64 a1, .int .i64 a2] w fun e w' => e = .returned (.int .i64 r) ∧ Below w.heap.size w w' := by
  unfold num_Lerp.f at h
  injection h with h; subst h; exact lerp_any a0 a1 a2 w
def imageeditorref01_Lerp.f (a0 : Int) (a1 : Int) (a2 : Int) : Option (Int) := some (lerpS a0 a1 a2)
theorem imageeditorref01_Lerp.calls (a0 : Int) (a1 : Int) (a2 : Int) (r : Int) (w : World) (h : imageeditorref01_Lerp.f a0 a1 a2 = some r) :
    Calls Try.prog 43 #[.int .i64 a0, .int .i64 a1, .int .i64 a2] w fun e w' => e = .returned (.int .i64 r) ∧ Below w.heap.size w w' := by
  unfold imageeditorref01_Lerp.f at h
  injection h with h; subst h; exact rlerp_any a0 a1 a2 w
def num_Sqrt.f (a0 : Int) : Option (Int) := if I64 a0 then some (sqrtS a0) else none
theorem num_Sqrt.calls (a0 : Int) (r : Int) (w : World) (h : num_Sqrt.f a0 = some r) :
    Calls Try.prog 48 #[.int .i64 a0] w fun e w' => e = .returned (.int .i64 r) ∧ Drawn0 w w' := by
  unfold num_Sqrt.f at h
  split at h
  · rename_i hg; injection h with h; subst h; exact sqrt_any a0 w hg
  · cases h
def imageeditorref01_Sqrt.f (a0 : Int) : Option (Int) := if I64 a0 then some (sqrtS a0) else none
theorem imageeditorref01_Sqrt.calls (a0 : Int) (r : Int) (w : World) (h : imageeditorref01_Sqrt.f a0 = some r) :
    Calls Try.prog 49 #[.int .i64 a0] w fun e w' => e = .returned (.int .i64 r) ∧ Drawn0 w w' := by
  unfold imageeditorref01_Sqrt.f at h
  split at h
  · rename_i hg; injection h with h; subst h; exact rsqrt_any a0 w hg
  · cases h
def imageeditorref01_Abs.f (a0 : Int) : Option (Int) := if I64 a0 then some (mag a0) else none
theorem imageeditorref01_Abs.calls (a0 : Int) (r : Int) (w : World) (h : imageeditorref01_Abs.f a0 = some r) :
    Calls Try.prog 56 #[.int .i64 a0] w fun e w' => e = .returned (.int .u64 r) ∧ Drawn0 w w' := by
  unfold imageeditorref01_Abs.f at h
  split at h
  · rename_i hg; injection h with h; subst h; exact abs_any a0 w hg
  · cases h
def imageeditorref01_Unit.f (a0 : Int) : Option (Int) := some (unitS a0)
theorem imageeditorref01_Unit.calls (a0 : Int) (r : Int) (w : World) (h : imageeditorref01_Unit.f a0 = some r) :
    Calls Try.prog 54 #[.int .i64 a0] w fun e w' => e = .returned (.int .i64 r) ∧ Below w.heap.size w w' := by
  unfold imageeditorref01_Unit.f at h
  injection h with h; subst h; exact runit_any a0 w
def num_Turn.f (a0 : Int) : Option (Int × Int) := if I64 a0 then some ((sineS (a0 % 65536), sineS ((a0 + 16384) % 65536))) else none
theorem num_Turn.calls (a0 : Int) (r1 : Int) (r2 : Int) (w : World) (h : num_Turn.f a0 = some (r1, r2)) :
    Calls Try.prog 52 #[.int .i64 a0] w fun e w' => e = .returned (.tuple #[.int .i64 r1, .int .i64 r2]) ∧ Below w.heap.size w w' := by
  unfold num_Turn.f at h
  split at h
  · rename_i hg; injection h with h; injection h with h1 h2; subst h1 h2; exact turn_any a0 w hg
  · cases h
def imageeditorref01_Turn.f (a0 : Int) : Option (Int × Int) := if I64 a0 then some ((sineS (a0 % 65536), sineS ((a0 + 16384) % 65536))) else none
theorem imageeditorref01_Turn.calls (a0 : Int) (r1 : Int) (r2 : Int) (w : World) (h : imageeditorref01_Turn.f a0 = some (r1, r2)) :
    Calls Try.prog 53 #[.int .i64 a0] w fun e w' => e = .returned (.tuple #[.int .i64 r1, .int .i64 r2]) ∧ Below w.heap.size w w' := by
  unfold imageeditorref01_Turn.f at h
  split at h
  · rename_i hg; injection h with h; injection h with h1 h2; subst h1 h2; exact rturn_any a0 w hg
  · cases h
def imageeditorref01_Product.f (a0 : Int) (a1 : Int) : Option (Int × Int) := if U64 a0 ∧ U64 a1 then some ((a0 * a1 / 18446744073709551616, a0 * a1 % 18446744073709551616)) else none
theorem imageeditorref01_Product.calls (a0 : Int) (a1 : Int) (r1 : Int) (r2 : Int) (w : World) (h : imageeditorref01_Product.f a0 a1 = some (r1, r2)) :
    Calls Try.prog 55 #[.int .u64 a0, .int .u64 a1] w fun e w' => e = .returned (.tuple #[.int .u64 r1, .int .u64 r2]) ∧ Drawn0 w w' := by
  unfold imageeditorref01_Product.f at h
  split at h
  · rename_i hg; injection h with h; injection h with h1 h2; subst h1 h2; exact product_any a0 a1 w hg.1 hg.2
  · cases h
end Go.Proofs.Yteehnbgkgdhgaaa.Given
