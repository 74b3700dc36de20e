import Derived.Test.YtlpfepcmpccbeaaZPNumx0
import Derived.Test.YtlpfepcmpccbeaaZPNumx1
import Derived.Test.YtlpfepcmpccbeaaZPNumx9
-- Written by the kit's print.py, called by wip/print-all.sh over several laws at once.
namespace Go.Proofs.Ytlpfepcmpccbeaa.PNum
open Go.RowKit Go.Proofs.YtlpfepcmpccbeaaW.PrintWords Go.Proofs.YtlpfepcmpccbeaaW.PrintLast Go.Proofs.YtlpfepcmpccbeaaW.PrintMore
attribute [local go_sem] max2_int min2_int max_two min_two
set_option linter.unusedVariables false
set_option linter.unusedSimpArgs false

attribute [local go_sem high] eqA35
/-! ### imageeditorref09_Picture: function 38 -/
mutual
def imageeditorref09_Picture.j0 : Nat → Bool → Int → Int → List (S35) → Option (Int)
  | 0, _, _, _, _ => none
  | k + 1, x41, x193000, x193001, x193002 => if x41 = true then (some 15) else (imageeditorref09_Picture.l0 k (x193002.length : Int) 0 x193000 x193001 x193002)
def imageeditorref09_Picture.l0 : Nat → Int → Int → Int → Int → List (S35) → Option (Int)
  | 0, _, _, _, _, _ => none
  | k + 1, x44, x45, x193000, x193001, x193002 => if x45 < x44 then (if 0 ≤ x45 then (if x45 < (x193002.length : Int) then ((imageeditorref06_Valid.f ((rd_T35 x193002 x45).f0) ((rd_T35 x193002 x45).f1) ((rd_T35 x193002 x45).f2) ((rd_T35 x193002 x45).f3)).bind fun t194 => (if t194 = true then (imageeditorref09_Picture.l0 k x44 (wrap64 (x45 + 1)) x193000 x193001 x193002) else (some 2))) else (none)) else (none)) else (some 0)
end
def imageeditorref09_Picture.f (k : Nat) (a0_0 : Int) (a0_1 : Int) (l0_2 : List (S35)) : Option (Int) := if a0_0 < 0 then (imageeditorref09_Picture.j0 k true a0_0 a0_1 l0_2) else (if a0_0 > 256 then (imageeditorref09_Picture.j0 k true a0_0 a0_1 l0_2) else (if a0_1 < 0 then (imageeditorref09_Picture.j0 k true a0_0 a0_1 l0_2) else (if a0_1 > 256 then (imageeditorref09_Picture.j0 k true a0_0 a0_1 l0_2) else (if ((a0_0 == 0) != (a0_1 == 0)) = true then (imageeditorref09_Picture.j0 k true a0_0 a0_1 l0_2) else (imageeditorref09_Picture.j0 k ((l0_2.length : Int) != (wrap64 (a0_0 * a0_1))) a0_0 a0_1 l0_2)))))
-- NOT PRINTED: function 11 (imageeditorref09_Image)

/-! ### imageeditorlaw09_same: function 12 -/
mutual
def imageeditorlaw09_same.j0 : Nat → Bool → Int → Int → List (S35) → Int → Int → List (S35) → Option (Bool)
  | 0, _, _, _, _, _, _, _ => none
  | k + 1, x26, x196000, x196001, x196002, x197000, x197001, x197002 => if x26 = true then (some false) else (imageeditorlaw09_same.l0 k (x196002.length : Int) 0 x196000 x196001 x196002 x197000 x197001 x197002)
def imageeditorlaw09_same.l0 : Nat → Int → Int → Int → Int → List (S35) → Int → Int → List (S35) → Option (Bool)
  | 0, _, _, _, _, _, _, _, _ => none
  | k + 1, x29, x30, x196000, x196001, x196002, x197000, x197001, x197002 => if x30 < x29 then (if 0 ≤ x30 then (if x30 < (x196002.length : Int) then (if x30 < (x197002.length : Int) then (if (!(((rd_T35 x196002 x30).f0) == ((rd_T35 x197002 x30).f0)) || (!(((rd_T35 x196002 x30).f1) == ((rd_T35 x197002 x30).f1)) || (!(((rd_T35 x196002 x30).f2) == ((rd_T35 x197002 x30).f2)) || (!(((rd_T35 x196002 x30).f3) == ((rd_T35 x197002 x30).f3)))))) = true then (some false) else (imageeditorlaw09_same.l0 k x29 (wrap64 (x30 + 1)) x196000 x196001 x196002 x197000 x197001 x197002)) else (none)) else (none)) else (none)) else (some true)
end
def imageeditorlaw09_same.f (k : Nat) (a0_0 : Int) (a0_1 : Int) (l0_2 : List (S35)) (a1_0 : Int) (a1_1 : Int) (l1_2 : List (S35)) : Option (Bool) := if a0_0 = a1_0 then (if a0_1 = a1_1 then (imageeditorlaw09_same.j0 k ((l0_2.length : Int) != (l1_2.length : Int)) a0_0 a0_1 l0_2 a1_0 a1_1 l1_2) else (imageeditorlaw09_same.j0 k true a0_0 a0_1 l0_2 a1_0 a1_1 l1_2)) else (imageeditorlaw09_same.j0 k true a0_0 a0_1 l0_2 a1_0 a1_1 l1_2)
-- NOT PRINTED: function 14 (profile_Convert)

end Go.Proofs.Ytlpfepcmpccbeaa.PNum
