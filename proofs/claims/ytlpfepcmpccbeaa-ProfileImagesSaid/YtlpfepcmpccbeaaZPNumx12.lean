import Derived.Test.YtlpfepcmpccbeaaZPNumx0
import Derived.Test.YtlpfepcmpccbeaaZPNumx11
-- Written by the kit's print.py, called by wip/print-all.sh over several laws at once.
namespace Go.Proofs.Ytlpfepcmpccbeaa.PNum
open Go.RowKit Go.Proofs.YtlpfepcmpccbeaaW.PrintWords Go.Proofs.YtlpfepcmpccbeaaW.PrintLast Go.Proofs.YtlpfepcmpccbeaaW.PrintMore
attribute [local go_sem] max2_int min2_int max_two min_two
set_option linter.unusedVariables false
set_option linter.unusedSimpArgs false

/-! ### imageeditorref04_Int: function 49 -/
def imageeditorref04_Int.f (k : Nat) (a0 : Int) : Option (ByteArray) := if a0 ≥ 0 then ((imageeditorref04_Uint.f k (IntKind.u64.wrap ((IntKind.u64.wrap (a0)) * 2))).bind fun t222 => (some t222)) else ((imageeditorref04_Uint.f k (IntKind.u64.wrap ((IntKind.u64.wrap ((IntKind.u64.wrap (wrap64 (-(wrap64 (a0 + 1))))) * 2)) + 1))).bind fun t223 => (some t223))
-- NOT PRINTED: function 18 (imageeditorref09_Bytes)

/-! ### imageeditorref09_Count: function 20 -/
def imageeditorref09_Count.f  : Option (Int) := some 4
-- NOT PRINTED: function 4 (imageeditorlaw09_ProfileChecks)

-- NOT PRINTED: function 5 (imageeditorlaw09_ProfileColors)

-- NOT PRINTED: function 6 (imageeditorlaw09_ProfileConverts)

/-! ### imageeditorref09_Number: function 65 -/
mutual
def imageeditorref09_Number.l0 : Nat → ByteArray → Int → Int → Int → Option (Int × Int × Int)
  | 0, _, _, _, _ => none
  | k + 1, x0, x1, x7, x8 => if (wrap64 (x1 + x8)) ≥ (x0.size : Int) then (some (0, x1, 5)) else (if 0 ≤ (wrap64 (x1 + x8)) then (if (wrap64 (x1 + x8)) < (x0.size : Int) then (if x8 = 9 then (if (bt x0 (wrap64 (x1 + x8))) > 1 then (imageeditorref09_Number.j1 k x0 x1 x7 x8 (bt x0 (wrap64 (x1 + x8))) true) else (if x8 > 0 then (imageeditorref09_Number.j1 k x0 x1 x7 x8 (bt x0 (wrap64 (x1 + x8))) ((bt x0 (wrap64 (x1 + x8))) == 0)) else (imageeditorref09_Number.j1 k x0 x1 x7 x8 (bt x0 (wrap64 (x1 + x8))) false))) else (if x8 > 0 then (imageeditorref09_Number.j1 k x0 x1 x7 x8 (bt x0 (wrap64 (x1 + x8))) ((bt x0 (wrap64 (x1 + x8))) == 0)) else (imageeditorref09_Number.j1 k x0 x1 x7 x8 (bt x0 (wrap64 (x1 + x8))) false))) else (none)) else (none))
def imageeditorref09_Number.j1 : Nat → ByteArray → Int → Int → Int → Int → Bool → Option (Int × Int × Int)
  | 0, _, _, _, _, _, _ => none
  | k + 1, x0, x1, x7, x8, x9, x37 => if x37 = true then (some (0, x1, 4)) else (if 0 ≤ (IntKind.u64.wrap (7 * (IntKind.u64.wrap (x8)))) then (if x9 < 128 then (some (Go.bits .or .u64 x7 (shl .u64 (IntKind.u64.wrap (Go.bits .and .u8 x9 127)) (IntKind.u64.wrap (7 * (IntKind.u64.wrap (x8))))), wrap64 ((wrap64 (x1 + x8)) + 1), 0)) else (imageeditorref09_Number.l0 k x0 x1 (Go.bits .or .u64 x7 (shl .u64 (IntKind.u64.wrap (Go.bits .and .u8 x9 127)) (IntKind.u64.wrap (7 * (IntKind.u64.wrap (x8)))))) (wrap64 (x8 + 1)))) else (none))
end
def imageeditorref09_Number.f (k : Nat) (a0 : ByteArray) (a1 : Int) : Option (Int × Int × Int) := imageeditorref09_Number.l0 k a0 a1 0 0
/-! ### imageeditorref09_Signed: function 66 -/
def imageeditorref09_Signed.f (a0 : Int) : Option (Int) := if (Int.tmod a0 2) = 0 then (some (wrap64 (IntKind.u64.wrap (Int.tdiv a0 2)))) else (some (wrap64 ((wrap64 (-(wrap64 (IntKind.u64.wrap (Int.tdiv a0 2))))) - 1)))
-- NOT PRINTED: function 30 (imageeditorref09_Parse)

-- NOT PRINTED: function 7 (imageeditorlaw09_ProfileParses)

-- NOT PRINTED: function 8 (imageeditorlaw09_ProfileReturns)

-- NOT PRINTED: function 9 (imageeditorlaw09_ProfileIdentity)

end Go.Proofs.Ytlpfepcmpccbeaa.PNum
