import Derived.Test.YtlpfepcmpccbeaaZPNumx0
import Derived.Test.YtlpfepcmpccbeaaZPNumx1
import Derived.Test.YtlpfepcmpccbeaaZPNumx4
import Derived.Test.YtlpfepcmpccbeaaZPNumx8
-- Written by the kit's print.py, called by wip/print-all.sh over several laws at once.
namespace Go.Proofs.Ytlpfepcmpccbeaa.PNum
open Go.RowKit Go.Proofs.YtlpfepcmpccbeaaW.PrintWords Go.Proofs.YtlpfepcmpccbeaaW.PrintLast Go.Proofs.YtlpfepcmpccbeaaW.PrintMore
attribute [local go_sem] max2_int min2_int max_two min_two
set_option linter.unusedVariables false
set_option linter.unusedSimpArgs false

attribute [local go_sem high] eqA35
/-! ### imageeditorref09_Signed: function 66 -/
def imageeditorref09_Signed.f (a0 : Int) : Option (Int) := if (Int.tmod a0 2) = 0 then (some (wrap64 (IntKind.u64.wrap (Int.tdiv a0 2)))) else (some (wrap64 ((wrap64 (-(wrap64 (IntKind.u64.wrap (Int.tdiv a0 2))))) - 1)))
-- NOT PRINTED: function 30 (imageeditorref09_Parse)

-- NOT PRINTED: function 7 (imageeditorlaw09_ProfileParses)

-- NOT PRINTED: function 8 (imageeditorlaw09_ProfileReturns)

-- NOT PRINTED: function 9 (imageeditorlaw09_ProfileIdentity)

/-! ### pixel_Valid: function 32 -/
def pixel_Valid.f (a0_0 : Int) (a0_1 : Int) (a0_2 : Int) (a0_3 : Int) : Option (Bool) := (pixel_Limit.f a0_0 a0_1 a0_2 a0_3).bind fun bt209 => (some (a0_0 == bt209.1 && (a0_1 == bt209.2.1 && (a0_2 == bt209.2.2.1 && (a0_3 == bt209.2.2.2)))))
-- NOT PRINTED: function 33 (api_Pixel)

-- NOT PRINTED: function 10 (profile_Image)

/-! ### imageeditorref06_Valid: function 71 -/
def imageeditorref06_Valid.f (a0_0 : Int) (a0_1 : Int) (a0_2 : Int) (a0_3 : Int) : Option (Bool) := (imageeditorref06_Limit.f a0_0 a0_1 a0_2 a0_3).bind fun bt214 => (some (bt214.1 == a0_0 && (bt214.2.1 == a0_1 && (bt214.2.2.1 == a0_2 && (bt214.2.2.2 == a0_3)))))
/-! ### imageeditorref09_Picture: function 38 -/
mutual
def imageeditorref09_Picture.j0 : Nat → Bool → Int → Int → List (S35) → Option (Int)
  | 0, _, _, _, _ => none
  | k + 1, x41, x219000, x219001, x219002 => if x41 = true then (some 15) else (imageeditorref09_Picture.l0 k (x219002.length : Int) 0 x219000 x219001 x219002)
def imageeditorref09_Picture.l0 : Nat → Int → Int → Int → Int → List (S35) → Option (Int)
  | 0, _, _, _, _, _ => none
  | k + 1, x44, x45, x219000, x219001, x219002 => if x45 < x44 then (if 0 ≤ x45 then (if x45 < (x219002.length : Int) then ((imageeditorref06_Valid.f ((rd_T35 x219002 x45).f0) ((rd_T35 x219002 x45).f1) ((rd_T35 x219002 x45).f2) ((rd_T35 x219002 x45).f3)).bind fun t220 => (if t220 = true then (imageeditorref09_Picture.l0 k x44 (wrap64 (x45 + 1)) x219000 x219001 x219002) else (some 2))) else (none)) else (none)) else (some 0)
end
def imageeditorref09_Picture.f (k : Nat) (a0_0 : Int) (a0_1 : Int) (l0_2 : List (S35)) : Option (Int) := if a0_0 < 0 then (imageeditorref09_Picture.j0 k true a0_0 a0_1 l0_2) else (if a0_0 > 256 then (imageeditorref09_Picture.j0 k true a0_0 a0_1 l0_2) else (if a0_1 < 0 then (imageeditorref09_Picture.j0 k true a0_0 a0_1 l0_2) else (if a0_1 > 256 then (imageeditorref09_Picture.j0 k true a0_0 a0_1 l0_2) else (if ((a0_0 == 0) != (a0_1 == 0)) = true then (imageeditorref09_Picture.j0 k true a0_0 a0_1 l0_2) else (imageeditorref09_Picture.j0 k ((l0_2.length : Int) != (wrap64 (a0_0 * a0_1))) a0_0 a0_1 l0_2)))))
-- NOT PRINTED: function 11 (imageeditorref09_Image)

end Go.Proofs.Ytlpfepcmpccbeaa.PNum
