/-
  An array of integers, as the reader reads it, opened.
-/
import Derived.Test.YteehnbgkgdhgaaaMx10
import Derived.ProofKit
import Derived.OpenShut
import Derived.ShutString
import Derived.ChangeOld
import Derived.Below
import Derived.SizedLaws
import Derived.Carry
namespace Go.Proofs.Yteehnbgkgdhgaaa.Mx
open Go.ChangeShapes Go.WideShapes Go.ChangeAt Go.RowKit
set_option linter.unusedVariables false

def arrK (k : IntKind) (n : Nat) (m : Nat → Int) : Array Value := ((List.range n).map fun j => Value.int k (m j)).toArray
theorem arrK_get (k : IntKind) (n : Nat) (m : Nat → Int) (j : Nat) (h : j < n) : (arrK k n m)[j]? = some (.int k (m j)) := by simp [arrK, h]
theorem open_arr {H : Type} {enc : TypeId × Value → H} {P : Program} {w : World} {base : Nat} {spare : Nat → Bool} {held : Bool} {r : Reach} {b0 : Nat} {t e : TypeId} {k : IntKind} {n : Nat} {v : Value} {d : DataW H} {ps : List MemPlace}
    (hu : P.underlying t = some (.array n e)) (he : P.underlying e = some (.int k)) (hce : P.cellsOf e = 1) (hct : P.cellsOf t = n) (hval : Value.okWide P w r b0 t v) (hd : DataW.Trod enc P w base spare held t v d ps) :
    ∃ m : Nat → Int, v = .agg (arrK k n m) ∧ ps = [] ∧ ∀ j, j < n → (Lit.int k (m j)).wf = true := by
  obtain ⟨cs, rfl, hsz, _⟩ : ∃ cs, v = .agg cs ∧ cs.size = P.cellsOf t ∧ Row.okWide P w r b0 t cs := by
    simpa [Value.okWide, hu] using hval
  rw [hct] at hsz
  obtain ⟨fuel, hf⟩ := hd
  obtain ⟨xs, m, rfl, hx, hl, hxl, hi⟩ := DataW.trod_array hu hf
  have hall : ∀ i, i < n → ∃ a, cs[i]? = some (.int k a) ∧ (Lit.int k a).wf = true ∧ ∃ y, xs[i]? = some y ∧ y.2 = [] := by
    intro i hin
    have h1 := hi i hin
    simp only [hce, Nat.mul_one] at h1
    have hcs : i < cs.size := by omega
    have h2 : List.take 1 (List.drop i (Value.cells (.agg cs)).toList) = [cs[i]] := by
      have : (Value.cells (.agg cs)).toList = cs.toList := rfl
      rw [this, List.drop_eq_getElem_cons (by simpa using hcs)]
      simp
    rw [h2] at h1
    have hxi : i < xs.length := by omega
    rw [List.getElem?_eq_getElem hxi] at h1
    obtain ⟨a, ha, hy, hw⟩ := DataW.trod_int he h1
    refine ⟨a, ?_, hw, xs[i], List.getElem?_eq_getElem hxi, ?_⟩
    · rw [Array.getElem?_eq_getElem hcs]
      simpa using ha
    · rw [hy]
  refine ⟨fun i => match cs[i]? with | some (.int _ a) => a | _ => 0, ?_, ?_, ?_⟩
  · congr 1
    apply Array.ext_getElem?
    intro i
    by_cases hin : i < n
    · obtain ⟨a, ha, _⟩ := hall i hin
      rw [arrK_get _ _ _ _ hin, ha]
    · rw [Array.getElem?_eq_none (by omega), Array.getElem?_eq_none (by simp [arrK]; omega)]
  · simp only [Prod.mk.injEq] at hx
    rw [hx.2]
    rw [List.flatMap_eq_nil_iff]
    intro y hy
    obtain ⟨i, hil, rfl⟩ := List.getElem_of_mem hy
    obtain ⟨_, _, _, y', hy', hn⟩ := hall i (by omega)
    rw [List.getElem?_eq_getElem hil] at hy'
    injection hy' with hy'
    rw [hy', hn]
  · intro j hj
    obtain ⟨a, ha, hw, _⟩ := hall j hj
    simpa [ha] using hw
end Go.Proofs.Yteehnbgkgdhgaaa.Mx
