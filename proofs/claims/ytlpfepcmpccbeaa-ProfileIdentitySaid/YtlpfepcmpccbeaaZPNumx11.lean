import Derived.Test.YtlpfepcmpccbeaaZPNumx0
import Derived.Test.YtlpfepcmpccbeaaZPNumx1
-- Written by the kit's print.py, called by wip/print-all.sh over several laws at once.
namespace Go.Proofs.Ytlpfepcmpccbeaa.PNum
open Go.RowKit Go.Proofs.YtlpfepcmpccbeaaW.PrintWords Go.Proofs.YtlpfepcmpccbeaaW.PrintLast Go.Proofs.YtlpfepcmpccbeaaW.PrintMore
attribute [local go_sem] max2_int min2_int max_two min_two
set_option linter.unusedVariables false
set_option linter.unusedSimpArgs false

attribute [local go_sem high] eqA35
/-! ### imageeditorlaw09_same: function 12 -/
mutual
def imageeditorlaw09_same.j0 : Nat → Bool → Int → Int → List (S35) → Int → Int → List (S35) → Option (Bool)
  | 0, _, _, _, _, _, _, _ => none
  | k + 1, x26, x222000, x222001, x222002, x223000, x223001, x223002 => if x26 = true then (some false) else (imageeditorlaw09_same.l0 k (x222002.length : Int) 0 x222000 x222001 x222002 x223000 x223001 x223002)
def imageeditorlaw09_same.l0 : Nat → Int → Int → Int → Int → List (S35) → Int → Int → List (S35) → Option (Bool)
  | 0, _, _, _, _, _, _, _, _ => none
  | k + 1, x29, x30, x222000, x222001, x222002, x223000, x223001, x223002 => if x30 < x29 then (if 0 ≤ x30 then (if x30 < (x222002.length : Int) then (if x30 < (x223002.length : Int) then (if (!(((rd_T35 x222002 x30).f0) == ((rd_T35 x223002 x30).f0)) || (!(((rd_T35 x222002 x30).f1) == ((rd_T35 x223002 x30).f1)) || (!(((rd_T35 x222002 x30).f2) == ((rd_T35 x223002 x30).f2)) || (!(((rd_T35 x222002 x30).f3) == ((rd_T35 x223002 x30).f3)))))) = true then (some false) else (imageeditorlaw09_same.l0 k x29 (wrap64 (x30 + 1)) x222000 x222001 x222002 x223000 x223001 x223002)) else (none)) else (none)) else (none)) else (some true)
end
def imageeditorlaw09_same.f (k : Nat) (a0_0 : Int) (a0_1 : Int) (l0_2 : List (S35)) (a1_0 : Int) (a1_1 : Int) (l1_2 : List (S35)) : Option (Bool) := if a0_0 = a1_0 then (if a0_1 = a1_1 then (imageeditorlaw09_same.j0 k ((l0_2.length : Int) != (l1_2.length : Int)) a0_0 a0_1 l0_2 a1_0 a1_1 l1_2) else (imageeditorlaw09_same.j0 k true a0_0 a0_1 l0_2 a1_0 a1_1 l1_2)) else (imageeditorlaw09_same.j0 k true a0_0 a0_1 l0_2 a1_0 a1_1 l1_2)
-- NOT PRINTED: function 3 (imageeditorlaw09_ProfileImages)

end Go.Proofs.Ytlpfepcmpccbeaa.PNum
