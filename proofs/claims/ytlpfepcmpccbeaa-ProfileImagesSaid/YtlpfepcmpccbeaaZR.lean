/-
  Proved: contracts of functions of the program and of the reference, several texts of mine in one; the conditions stand at each theorem.
-/
import Derived.Test.YtlpfepcmpccbeaaZM
import Derived.ProofKit
import Derived.OpenShut
import Derived.ShutString
import Derived.ChangeOld
import Derived.Below
import Derived.SizedLaws
import Derived.Carry
import Derived.Test.YtlpfepcmpccbeaaZS
/-
  An array of integers, as the reader reads it, opened.
-/
namespace Go.Proofs.Ytlpfepcmpccbeaa.Mx
open Go.ChangeShapes Go.WideShapes Go.ChangeAt Go.RowKit
set_option linter.unusedVariables false

def arrK (k : IntKind) (n : Nat) (m : Nat → Int) : Array Value := ((List.range n).map fun j => Value.int k (m j)).toArray
theorem arrK_get (k : IntKind) (n : Nat) (m : Nat → Int) (j : Nat) (h : j < n) : (arrK k n m)[j]? = some (.int k (m j)) := by simp [arrK, h]
theorem open_arr {H : Type} {enc : TypeId × Value → H} {P : Program} {w : World} {base : Nat} {spare : Nat → Bool} {held : Bool} {r : Reach} {b0 : Nat} {t e : TypeId} {k : IntKind} {n : Nat} {v : Value} {d : DataW H} {ps : List MemPlace}
    (hu : P.underlying t = some (.array n e)) (he : P.underlying e = some (.int k)) (hce : P.cellsOf e = 1) (hct : P.cellsOf t = n) (hval : Value.okWide P w r b0 t v) (hd : DataW.Trod enc P w base spare held t v d ps) :
    ∃ m : Nat → Int, v = .agg (arrK k n m) ∧ ps = [] ∧ ∀ j, j < n → (Lit.int k (m j)).wf = true := by
  obtain ⟨cs, rfl, hsz, _⟩ : ∃ cs, v = .agg cs ∧ cs.size = P.cellsOf t ∧ Row.okWide P w r b0 t cs := by
    simpa [Value.okWide, hu] using hval
  rw [hct] at hsz
  obtain ⟨fuel, hf⟩ := hd
  obtain ⟨xs, m, rfl, hx, hl, hxl, hi⟩ := DataW.trod_array hu hf
  have hall : ∀ i, i < n → ∃ a, cs[i]? = some (.int k a) ∧ (Lit.int k a).wf = true ∧ ∃ y, xs[i]? = some y ∧ y.2 = [] := by
    intro i hin
    have h1 := hi i hin
    simp only [hce, Nat.mul_one] at h1
    have hcs : i < cs.size := by omega
    have h2 : List.take 1 (List.drop i (Value.cells (.agg cs)).toList) = [cs[i]] := by
      have : (Value.cells (.agg cs)).toList = cs.toList := rfl
      rw [this, List.drop_eq_getElem_cons (by simpa using hcs)]
      simp
    rw [h2] at h1
    have hxi : i < xs.length := by omega
    rw [List.getElem?_eq_getElem hxi] at h1
    obtain ⟨a, ha, hy, hw⟩ := DataW.trod_int he h1
    refine ⟨a, ?_, hw, xs[i], List.getElem?_eq_getElem hxi, ?_⟩
    · rw [Array.getElem?_eq_getElem hcs]
      simpa using ha
    · rw [hy]
  refine ⟨fun i => match cs[i]? with | some (.int _ a) => a | _ => 0, ?_, ?_, ?_⟩
  · congr 1
    apply Array.ext_getElem?
    intro i
    by_cases hin : i < n
    · obtain ⟨a, ha, _⟩ := hall i hin
      rw [arrK_get _ _ _ _ hin, ha]
    · rw [Array.getElem?_eq_none (by omega), Array.getElem?_eq_none (by simp [arrK]; omega)]
  · simp only [Prod.mk.injEq] at hx
    rw [hx.2]
    rw [List.flatMap_eq_nil_iff]
    intro y hy
    obtain ⟨i, hil, rfl⟩ := List.getElem_of_mem hy
    obtain ⟨_, _, _, y', hy', hn⟩ := hall i (by omega)
    rw [List.getElem?_eq_getElem hil] at hy'
    injection hy' with hy'
    rw [hy', hn]
  · intro j hj
    obtain ⟨a, ha, hw, _⟩ := hall j hj
    simpa [ha] using hw
end Go.Proofs.Ytlpfepcmpccbeaa.Mx
/-
  A profile, as the reader reads it, opened.
-/
namespace Go.Proofs.Ytlpfepcmpccbeaa.Pf
open Go.ChangeShapes Go.WideShapes Go.ChangeAt Go.RowKit Go.Proofs.Ytlpfepcmpccbeaa.Cv Go.Proofs.Ytlpfepcmpccbeaa.Mx Go.Proofs.Ytlpfepcmpccbeaa.PNum Go.Proofs.YtlpfepcmpccbeaaW.PrintWords
set_option linter.unusedVariables false

theorem addr_add2 (a : Addr) (x y : Nat) : (a.add x).add y = a.add (x + y) := by
  unfold Addr.add
  by_cases hx : x = 0 <;> by_cases hy : y = 0 <;> simp [hx, hy, Nat.add_assoc]
set_option maxRecDepth 100000
section
variable {H : Type} {enc : TypeId × Value → H} {w : World} {base : Nat} {spare : Nat → Bool} {held : Bool}
/-- a row of knots, opened -/
theorem open_knots {fuel : Nat} {cs : List Value} {x : DataW H × List MemPlace} (h : DataW.trod enc Try.prog w base spare held fuel 22 cs = some x) :
    ∃ A l c, cs = [.slice A l.length c] ∧ Kd.C k72 w A l.length l ∧ l.length ≤ c ∧ ((x.1 = .nil ∧ l = []) ∨ ∃ e1 e2 : List (DataW H), x.1 = .slice e1 e2 ∧ e1.length = l.length) := by
  rcases DataW.trod_slice Try.underlying22 h with ⟨rfl, rfl⟩ | ⟨a, len, cap, elems, rest, n, _, rfl, rfl, hb, hlc, hcm, hel, hcell, _, _⟩
  · exact ⟨none, [], 0, rfl, Kd.C_nil _ _, Nat.le_refl _, .inl ⟨rfl, rfl⟩⟩
  · have hall : ∀ i, i < len → ∃ p : S72, w.cell? (a.add (i * 2 + 0)) = some (.int .i64 p.f0) ∧ w.cell? (a.add (i * 2 + 1)) = some (.int .i64 p.f1) := by
      intro i hi
      have h1 := hcell i hi
      have hi' : i < elems.length := by omega
      rw [List.getElem?_eq_getElem hi'] at h1
      simp only [Option.bind_eq_some_iff] at h1
      obtain ⟨ks, hk, ht⟩ := h1
      have hc2 : Try.prog.cellsOf 72 = 2 := by kernel_rfl
      rw [hc2] at hk
      obtain ⟨_, hkl, hka⟩ := World.cells?_some hk
      obtain ⟨ys, n2, _, _, _, hyl, hf⟩ := DataW.trod_struct Try.underlying72 ht
      have hc1 : Try.prog.cellsOf 3 = 1 := by kernel_rfl
      have f0 : DataW.trod enc Try.prog w base spare held n2 3 ((ks.drop 0).take (Try.prog.cellsOf 3)) = ys[0]? := hf 0 _ rfl
      have f1 : DataW.trod enc Try.prog w base spare held n2 3 ((ks.drop 1).take (Try.prog.cellsOf 3)) = ys[1]? := hf 1 _ rfl
      rw [hc1] at f0 f1
      have hys : ys.length = 2 := hyl
      rw [List.getElem?_eq_getElem (show 0 < ys.length by omega)] at f0
      rw [List.getElem?_eq_getElem (show 1 < ys.length by omega)] at f1
      obtain ⟨x0, g0, _, _⟩ := DataW.trod_int Try.underlying3 f0
      obtain ⟨x1, g1, _, _⟩ := DataW.trod_int Try.underlying3 f1
      obtain ⟨u, v, rfl⟩ : ∃ u v, ks = [u, v] := by
        match ks, hkl with
        | [u, v], _ => exact ⟨u, v, rfl⟩
      simp at g0 g1
      subst g0 g1
      have k0 := hka 0 (by omega)
      have k1 := hka 1 (by omega)
      rw [addr_add2] at k0 k1
      exact ⟨⟨x0, x1⟩, k0, k1⟩
    refine ⟨some a, (List.range len).map (fun i => if hi : i < len then (hall i hi).choose else z72), cap, by simp, ?_, by simp; exact hlc, .inr ⟨_, _, rfl, by simp [hel]⟩⟩
    have hmx : maxLen ≤ 9223372036854775807 := by decide
    refine ⟨rfl, by simp; omega, fun hn => ⟨a, rfl, fun j p hj => ?_⟩⟩
    obtain ⟨hjl, hp⟩ := List.getElem?_eq_some_iff.1 hj
    have hjl' : j < len := by simpa using hjl
    have hp' : (hall j hjl').choose = p := by
      rw [← hp]
      simp [hjl']
    have hs := (hall j hjl').choose_spec
    rw [hp'] at hs
    refine ⟨[.int .i64 p.f0, .int .i64 p.f1], rfl, k72_mk w p, fun i u hu => ?_⟩
    match i, hu with
    | 0, hu =>
      have : Value.int .i64 p.f0 = u := by simpa using hu
      rw [← this]; exact hs.1
    | 1, hu =>
      have : Value.int .i64 p.f1 = u := by simpa using hu
      rw [← this]; exact hs.2
theorem open_prof {r : Reach} {b0 : Nat} {v : Value} {d : DataW H} {ps : List MemPlace} {ts : List TypeId} {ds : List (DataW H)} {j : Nat} (hsz : (DataW.weightsEach Try.prog ts ds).all (· ≤ reachBytes) = true) (ht : ts[j]? = some 25) (hd0 : ds[j]? = some d)
    (hval : Value.okWide Try.prog w r b0 25 v) (hd : DataW.Trod enc Try.prog w base spare held 25 v d ps) :
    ∃ nm A l c m, v = .agg (profC nm (.slice A l.length c) m) ∧ nm.size ≤ 140737488355232 ∧ l.length ≤ 140737488355232 ∧ Kd.C k72 w A l.length l ∧ l.length ≤ c := by
  obtain ⟨cs, rfl, hcs, _⟩ : ∃ cs, v = .agg cs ∧ cs.size = Try.prog.cellsOf 25 ∧ Row.okWide Try.prog w r b0 25 cs := by
    simpa [Value.okWide, Try.underlying25] using hval
  have h11 : Try.prog.cellsOf 25 = 11 := by kernel_rfl
  rw [h11] at hcs
  obtain ⟨fuel, hf⟩ := hd
  obtain ⟨xs, n, _, hx, _, hxl, hi⟩ := DataW.trod_struct Try.underlying25 hf
  have hxl' : xs.length = 3 := hxl
  have f0 : DataW.trod enc Try.prog w base spare held n 9 (((Value.cells (.agg cs)).toList.drop 0).take (Try.prog.cellsOf 9)) = xs[0]? := hi 0 _ rfl
  have f1 : DataW.trod enc Try.prog w base spare held n 22 (((Value.cells (.agg cs)).toList.drop 1).take (Try.prog.cellsOf 22)) = xs[1]? := hi 1 _ rfl
  have f2 : DataW.trod enc Try.prog w base spare held n 23 (((Value.cells (.agg cs)).toList.drop 2).take (Try.prog.cellsOf 23)) = xs[2]? := hi 2 _ rfl
  rw [show Try.prog.cellsOf 9 = 1 by kernel_rfl, List.getElem?_eq_getElem (show 0 < xs.length by omega)] at f0
  rw [show Try.prog.cellsOf 22 = 1 by kernel_rfl, List.getElem?_eq_getElem (show 1 < xs.length by omega)] at f1
  rw [show Try.prog.cellsOf 23 = 9 by kernel_rfl, List.getElem?_eq_getElem (show 2 < xs.length by omega)] at f2
  obtain ⟨nm, g0, y0, hnm⟩ := DataW.trod_string Try.underlying9 f0
  obtain ⟨A, l, c, g1, hC, hlc, hy1⟩ := open_knots f1
  obtain ⟨zs, n2, _, _, _, hzl, hzi⟩ := DataW.trod_array Try.underlying23 f2
  have hcl : (Value.cells (.agg cs)).toList = cs.toList := rfl
  rw [hcl] at g0 g1 hzi
  have hcl' : cs.toList.length = 11 := by simpa using hcs
  have hall : ∀ i, i < 9 → ∃ a, cs[2 + i]? = some (.int .i64 a) := by
    intro i hin
    have h1 := hzi i hin
    rw [show Try.prog.cellsOf 3 = 1 by kernel_rfl] at h1
    have hcs' : 2 + i < cs.toList.length := by omega
    have h2 : List.take 1 (List.drop (i * 1) (List.take 9 (List.drop 2 cs.toList))) = [cs.toList[2 + i]] := by
      rw [Nat.mul_one, List.drop_take, List.drop_drop, List.take_take, show min 1 (9 - i) = 1 by omega, List.drop_eq_getElem_cons hcs']
      rfl
    rw [h2] at h1
    have hzi' : i < zs.length := by have : zs.length = 9 := hzl; omega
    rw [List.getElem?_eq_getElem hzi'] at h1
    obtain ⟨a, ha, _, _⟩ := DataW.trod_int Try.underlying3 h1
    refine ⟨a, ?_⟩
    rw [← Array.getElem?_toList, List.getElem?_eq_getElem hcs']
    simpa using ha
  have e0 : cs[0]? = some (.string nm) := by
    rw [← Array.getElem?_toList]
    have : (cs.toList.drop 0).take 1 = [cs.toList[0]] := by rw [List.drop_eq_getElem_cons (show 0 < cs.toList.length by omega)]; rfl
    rw [this] at g0
    rw [List.getElem?_eq_getElem (show 0 < cs.toList.length by omega)]
    simpa using g0
  have e1 : cs[1]? = some (.slice A l.length c) := by
    rw [← Array.getElem?_toList]
    have : (cs.toList.drop 1).take 1 = [cs.toList[1]] := by rw [List.drop_eq_getElem_cons (show 1 < cs.toList.length by omega)]; rfl
    rw [this] at g1
    rw [List.getElem?_eq_getElem (show 1 < cs.toList.length by omega)]
    simpa using g1
  have hd : d = .agg (xs.map (·.1)) := congrArg Prod.fst hx
  have hz : ∀ q ∈ d.weights Try.prog 25, q ≤ reachBytes := fun q hq => by
    simpa using List.all_eq_true.1 hsz _ (DataW.weights_mem_each ht hd0 q hq)
  have hz2 : (DataW.weightsEach Try.prog [9, 22, 23] (xs.map (·.1))).all (· ≤ reachBytes) = true := by
    rw [List.all_eq_true]
    intro q hq
    have := hz q (by rw [hd]; simp only [DataW.weights, Try.underlying25]; exact hq)
    simpa using this
  have hrb : reachBytes ≤ 140737488355232 := by decide
  refine ⟨nm, A, l, c, fun k => match cs[2 + k]? with | some (.int _ a) => a | _ => 0, ?_, ?_, ?_, hC, hlc⟩
  · congr 1
    apply Array.ext_getElem?
    intro i
    by_cases h0 : i = 0
    · subst h0; rw [e0]; rfl
    · by_cases h1 : i = 1
      · subst h1; rw [e1]; rfl
      · by_cases h2 : i < 11
        · obtain ⟨k, rfl⟩ : ∃ k, i = 2 + k := ⟨i - 2, by omega⟩
          obtain ⟨a, ha⟩ := hall k (by omega)
          rw [profC_m _ _ _ k (by omega), ha]
        · rw [Array.getElem?_eq_none (by omega), Array.getElem?_eq_none (by rw [profC_size]; omega)]
  · have hs := sized_string hz2 (j := 0) (t := 9) (bytes := nm.data.toList) rfl (by
      rw [List.getElem?_map, List.getElem?_eq_getElem (show 0 < xs.length by omega), y0]; rfl)
    have : nm.size = nm.data.toList.length := by rw [Array.length_toList]; rfl
    omega
  · rcases hy1 with ⟨_, rfl⟩ | ⟨e1, e2, hy1, hel⟩
    · simp
    · have hs := sized_slice hz2 (j := 1) (t := 22) (elems := e1) (spare := e2) rfl (by
        rw [List.getElem?_map, List.getElem?_eq_getElem (show 1 < xs.length by omega)]
        exact congrArg some hy1) Try.underlying22
      rw [show Try.prog.bytesOf 72 = 16 by kernel_rfl] at hs
      omega
/-- a pixel, opened -/
theorem open_pix {r : Reach} {b0 : Nat} {v : Value} {d : DataW H} {ps : List MemPlace} (hval : Value.okWide Try.prog w r b0 35 v) (hd : DataW.Trod enc Try.prog w base spare held 35 v d ps) :
    ∃ x y z t, v = .agg (pixC x y z t) := by
  obtain ⟨cs, rfl, hcs, _⟩ : ∃ cs, v = .agg cs ∧ cs.size = Try.prog.cellsOf 35 ∧ Row.okWide Try.prog w r b0 35 cs := by
    simpa [Value.okWide, Try.underlying35] using hval
  have h4 : Try.prog.cellsOf 35 = 4 := by kernel_rfl
  rw [h4] at hcs
  obtain ⟨fuel, hf⟩ := hd
  obtain ⟨xs, n, _, hx, _, hxl, hi⟩ := DataW.trod_struct Try.underlying35 hf
  have hxl' : xs.length = 4 := hxl
  have f0 : DataW.trod enc Try.prog w base spare held n 3 (((Value.cells (.agg cs)).toList.drop 0).take (Try.prog.cellsOf 3)) = xs[0]? := hi 0 _ rfl
  have f1 : DataW.trod enc Try.prog w base spare held n 3 (((Value.cells (.agg cs)).toList.drop 1).take (Try.prog.cellsOf 3)) = xs[1]? := hi 1 _ rfl
  have f2 : DataW.trod enc Try.prog w base spare held n 3 (((Value.cells (.agg cs)).toList.drop 2).take (Try.prog.cellsOf 3)) = xs[2]? := hi 2 _ rfl
  have f3 : DataW.trod enc Try.prog w base spare held n 3 (((Value.cells (.agg cs)).toList.drop 3).take (Try.prog.cellsOf 3)) = xs[3]? := hi 3 _ rfl
  have hcl : (Value.cells (.agg cs)).toList = cs.toList := rfl
  rw [hcl, show Try.prog.cellsOf 3 = 1 by kernel_rfl, List.getElem?_eq_getElem (show 0 < xs.length by omega)] at f0
  rw [hcl, show Try.prog.cellsOf 3 = 1 by kernel_rfl, List.getElem?_eq_getElem (show 1 < xs.length by omega)] at f1
  rw [hcl, show Try.prog.cellsOf 3 = 1 by kernel_rfl, List.getElem?_eq_getElem (show 2 < xs.length by omega)] at f2
  rw [hcl, show Try.prog.cellsOf 3 = 1 by kernel_rfl, List.getElem?_eq_getElem (show 3 < xs.length by omega)] at f3
  obtain ⟨x, gx, _, _⟩ := DataW.trod_int Try.underlying3 f0
  obtain ⟨y, gy, _, _⟩ := DataW.trod_int Try.underlying3 f1
  obtain ⟨z, gz, _, _⟩ := DataW.trod_int Try.underlying3 f2
  obtain ⟨t, gt, _, _⟩ := DataW.trod_int Try.underlying3 f3
  refine ⟨x, y, z, t, ?_⟩
  obtain ⟨L⟩ := cs
  match L, hcs with
  | [p0, p1, p2, p3], _ =>
    simp at gx gy gz gt
    subst gx gy gz gt
    rfl
end
end Go.Proofs.Ytlpfepcmpccbeaa.Pf
