import Derived.Test.YtlpfepcmpccbeaaZR
import Derived.Test.YtlpfepcmpccbeaaZI
/-
  An image, as the reader reads it, opened.
-/
namespace Go.Proofs.Ytlpfepcmpccbeaa.Im
open Go.ChangeShapes Go.WideShapes Go.ChangeAt Go.RowKit Go.Proofs.Ytlpfepcmpccbeaa.Pf Go.Proofs.Ytlpfepcmpccbeaa.PNum Go.Proofs.YtlpfepcmpccbeaaW.PrintWords
set_option linter.unusedVariables false
set_option maxRecDepth 100000
section
variable {H : Type} {enc : TypeId × Value → H} {w : World} {base : Nat} {spare : Nat → Bool} {held : Bool}
/-- a row of pixels, opened -/
theorem open_pixels {fuel : Nat} {cs : List Value} {x : DataW H × List MemPlace} (h : DataW.trod enc Try.prog w base spare held fuel 26 cs = some x) :
    ∃ A l c, cs = [.slice A l.length c] ∧ Kd.C k35 w A l.length l ∧ l.length ≤ c := by
  rcases DataW.trod_slice Try.underlying26 h with ⟨rfl, rfl⟩ | ⟨a, len, cap, elems, rest, n, _, rfl, rfl, hb, hlc, hcm, hel, hcell, _, _⟩
  · exact ⟨none, [], 0, rfl, Kd.C_nil _ _, Nat.le_refl _⟩
  · have hall : ∀ i, i < len → ∃ p : Px, w.cell? (a.add (i * 4 + 0)) = some (.int .i64 p.f0) ∧ w.cell? (a.add (i * 4 + 1)) = some (.int .i64 p.f1) ∧ w.cell? (a.add (i * 4 + 2)) = some (.int .i64 p.f2) ∧ w.cell? (a.add (i * 4 + 3)) = some (.int .i64 p.f3) := by
      intro i hi
      have h1 := hcell i hi
      have hi' : i < elems.length := by omega
      rw [List.getElem?_eq_getElem hi'] at h1
      simp only [Option.bind_eq_some_iff] at h1
      obtain ⟨ks, hk, ht⟩ := h1
      have hc4 : Try.prog.cellsOf 35 = 4 := by kernel_rfl
      rw [hc4] at hk
      obtain ⟨_, hkl, hka⟩ := World.cells?_some hk
      obtain ⟨ys, n2, _, _, _, hyl, hf⟩ := DataW.trod_struct Try.underlying35 ht
      have hc1 : Try.prog.cellsOf 3 = 1 := by kernel_rfl
      have f0 : DataW.trod enc Try.prog w base spare held n2 3 ((ks.drop 0).take (Try.prog.cellsOf 3)) = ys[0]? := hf 0 _ rfl
      have f1 : DataW.trod enc Try.prog w base spare held n2 3 ((ks.drop 1).take (Try.prog.cellsOf 3)) = ys[1]? := hf 1 _ rfl
      have f2 : DataW.trod enc Try.prog w base spare held n2 3 ((ks.drop 2).take (Try.prog.cellsOf 3)) = ys[2]? := hf 2 _ rfl
      have f3 : DataW.trod enc Try.prog w base spare held n2 3 ((ks.drop 3).take (Try.prog.cellsOf 3)) = ys[3]? := hf 3 _ rfl
      rw [hc1] at f0 f1 f2 f3
      have hys : ys.length = 4 := hyl
      rw [List.getElem?_eq_getElem (show 0 < ys.length by omega)] at f0
      rw [List.getElem?_eq_getElem (show 1 < ys.length by omega)] at f1
      rw [List.getElem?_eq_getElem (show 2 < ys.length by omega)] at f2
      rw [List.getElem?_eq_getElem (show 3 < ys.length by omega)] at f3
      obtain ⟨x0, g0, _, _⟩ := DataW.trod_int Try.underlying3 f0
      obtain ⟨x1, g1, _, _⟩ := DataW.trod_int Try.underlying3 f1
      obtain ⟨x2, g2, _, _⟩ := DataW.trod_int Try.underlying3 f2
      obtain ⟨x3, g3, _, _⟩ := DataW.trod_int Try.underlying3 f3
      obtain ⟨u0, u1, u2, u3, rfl⟩ : ∃ u0 u1 u2 u3, ks = [u0, u1, u2, u3] := by
        match ks, hkl with
        | [u0, u1, u2, u3], _ => exact ⟨u0, u1, u2, u3, rfl⟩
      simp at g0 g1 g2 g3
      subst g0 g1 g2 g3
      have k0 := hka 0 (by omega)
      have k1 := hka 1 (by omega)
      have k2 := hka 2 (by omega)
      have k3 := hka 3 (by omega)
      rw [addr_add2] at k0 k1 k2 k3
      exact ⟨⟨x0, x1, x2, x3⟩, k0, k1, k2, k3⟩
    refine ⟨some a, (List.range len).map (fun i => if hi : i < len then (hall i hi).choose else z35), cap, by simp, ?_, by simp; exact hlc⟩
    have hmx : maxLen ≤ 9223372036854775807 := by decide
    refine ⟨rfl, by simp; omega, fun hn => ⟨a, rfl, fun j p hj => ?_⟩⟩
    obtain ⟨hjl, hp⟩ := List.getElem?_eq_some_iff.1 hj
    have hjl' : j < len := by simpa using hjl
    have hp' : (hall j hjl').choose = p := by
      rw [← hp]
      simp [hjl']
    have hs := (hall j hjl').choose_spec
    rw [hp'] at hs
    refine ⟨[.int .i64 p.f0, .int .i64 p.f1, .int .i64 p.f2, .int .i64 p.f3], rfl, k35_mk w p, fun i u hu => ?_⟩
    match i, hu with
    | 0, hu =>
      have : Value.int .i64 p.f0 = u := by simpa using hu
      rw [← this]; exact hs.1
    | 1, hu =>
      have : Value.int .i64 p.f1 = u := by simpa using hu
      rw [← this]; exact hs.2.1
    | 2, hu =>
      have : Value.int .i64 p.f2 = u := by simpa using hu
      rw [← this]; exact hs.2.2.1
    | 3, hu =>
      have : Value.int .i64 p.f3 = u := by simpa using hu
      rw [← this]; exact hs.2.2.2
/-- an image, opened -/
theorem open_image {r : Reach} {b0 : Nat} {v : Value} {d : DataW H} {ps : List MemPlace} (hval : Value.okWide Try.prog w r b0 28 v) (hd : DataW.Trod enc Try.prog w base spare held 28 v d ps) :
    ∃ W H A c l, v = .agg (imgC W H (.slice A l.length c)) ∧ Kd.C k35 w A l.length l ∧ l.length ≤ c := by
  obtain ⟨cs, rfl, hcs, _⟩ : ∃ cs, v = .agg cs ∧ cs.size = Try.prog.cellsOf 28 ∧ Row.okWide Try.prog w r b0 28 cs := by
    simpa [Value.okWide, Try.underlying28] using hval
  have h3 : Try.prog.cellsOf 28 = 3 := by kernel_rfl
  rw [h3] at hcs
  obtain ⟨fuel, hf⟩ := hd
  obtain ⟨xs, n, _, hx, _, hxl, hi⟩ := DataW.trod_struct Try.underlying28 hf
  have hxl' : xs.length = 3 := hxl
  have f0 : DataW.trod enc Try.prog w base spare held n 3 (((Value.cells (.agg cs)).toList.drop 0).take (Try.prog.cellsOf 3)) = xs[0]? := hi 0 _ rfl
  have f1 : DataW.trod enc Try.prog w base spare held n 3 (((Value.cells (.agg cs)).toList.drop 1).take (Try.prog.cellsOf 3)) = xs[1]? := hi 1 _ rfl
  have f2 : DataW.trod enc Try.prog w base spare held n 26 (((Value.cells (.agg cs)).toList.drop 2).take (Try.prog.cellsOf 26)) = xs[2]? := hi 2 _ rfl
  have hcl : (Value.cells (.agg cs)).toList = cs.toList := rfl
  rw [hcl, show Try.prog.cellsOf 3 = 1 by kernel_rfl, List.getElem?_eq_getElem (show 0 < xs.length by omega)] at f0
  rw [hcl, show Try.prog.cellsOf 3 = 1 by kernel_rfl, List.getElem?_eq_getElem (show 1 < xs.length by omega)] at f1
  rw [hcl, show Try.prog.cellsOf 26 = 1 by kernel_rfl, List.getElem?_eq_getElem (show 2 < xs.length by omega)] at f2
  obtain ⟨x, gx, _, _⟩ := DataW.trod_int Try.underlying3 f0
  obtain ⟨y, gy, _, _⟩ := DataW.trod_int Try.underlying3 f1
  obtain ⟨A, l, c, gz, hC, hlc⟩ := open_pixels f2
  refine ⟨x, y, A, c, l, ?_, hC, hlc⟩
  obtain ⟨L⟩ := cs
  match L, hcs with
  | [p0, p1, p2], _ =>
    simp at gx gy gz
    subst gx gy gz
    rfl
end
end Go.Proofs.Ytlpfepcmpccbeaa.Im
