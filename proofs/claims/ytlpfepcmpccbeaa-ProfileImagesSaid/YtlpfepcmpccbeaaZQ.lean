/-
  Proved: contracts of functions of the program and of the reference, several texts of mine in one; the conditions stand at each theorem.
-/
import Derived.Test.YtlpfepcmpccbeaaZP
import Derived.Test.YtlpfepcmpccbeaaZM
/-
  profile.newEncoder.
-/
namespace Go.Proofs.Ytlpfepcmpccbeaa.Pf
open Go.RowKit Go.Proofs.Ytlpfepcmpccbeaa.NM Go.Proofs.Ytlpfepcmpccbeaa.Cv Go.Proofs.Ytlpfepcmpccbeaa.Nm9 Go.Proofs.Ytlpfepcmpccbeaa.Mx Go.Proofs.Ytlpfepcmpccbeaa.PNum Go.Proofs.YtlpfepcmpccbeaaW.PrintWords Go.Proofs.YtlpfepcmpccbeaaW.PrintMore Go.Proofs.YtlpfepcmpccbeaaW.PrintLast
set_option linter.unusedVariables false
/-- the cells of an encoder -/
def encC (m : Nat → Int) (s : Value) : Array Value := arrN 9 m ++ #[s]
theorem encC_size (m : Nat → Int) (s : Value) : (encC m s).size = 10 := by unfold encC; simp [arrN_size]
theorem encC_info (m : Nat → Int) (s : Value) : (Try.prog.info? 59).map (·.size) = some (encC m s).size := by
  rw [encC_size]
  kernel_rfl
theorem encC_k (m : Nat → Int) (s : Value) : (encC m s)[9]? = some s := by
  unfold encC
  rw [Array.getElem?_append_right (by rw [arrN_size]; omega), arrN_size]
  rfl
theorem encC_m (m : Nat → Int) (s : Value) (k : Nat) (h : k < 9) : (encC m s)[k]? = some (.int .i64 (m k)) := by
  unfold encC
  rw [Array.getElem?_append_left (by rw [arrN_size]; exact h)]
  exact arrN_get 9 m k h
theorem encC_one (m : Nat → Int) (s : Value) (h : s.oneCell' = true) : (encC m s).all (·.oneCell') = true := by
  unfold encC
  rw [Array.all_append, arrN_one]
  simp [h]
theorem R_C {e : Nat} {w : World} {base n c : Nat} {ok : Nat → Prop} {A : Option Addr} {xs : List Kn} (h : Kd.R k72 e w base ok (.slice A n c) xs) : xs.length ≤ c ∧ Kd.C k72 w A xs.length xs := by
  obtain ⟨A2, c2, he, h1, h2⟩ := Kd.R_reads h
  injection he with e1 e2 e3
  subst e1 e3
  exact ⟨h1, h2⟩
theorem R_setRow {e : Nat} {w : World} {base g : Nat} {ok : Nat → Prop} {v : Value} {xs : List Kn} (h : Kd.R k72 e w base ok v xs) (hg : g < base) (cs : Array Value) : Kd.R k72 e (w.setRow g cs) base ok v xs := by
  refine Kd.R_mono (Kd.R_move (Kd.R_bound h) (fun k hk => ?_)) (fun _ hk => hk.1)
  have := hk.2.1
  simp only [World.setRow]
  rw [Array.getElem?_modify, if_neg (by omega)]
theorem cinverse_any (A : Option Addr) (c : Nat) (l : List Kn) (w : World) (hr : Kd.C k72 w A l.length l) (hc : l.length ≤ c) :
    Calls Try.prog 68 #[.slice A l.length c] w fun e w' => ∃ A2 c2, e = .returned (.tuple #[.slice A2 (invK l).length c2, .int .i64 (invE l)]) ∧ Kd.R k72 72 w' w.heap.size (fun _ => True) (.slice A2 (invK l).length c2) (invK l) ∧ Below w.heap.size w w' := by
  refine (curve_Inverse.calls 33 A c l _ _ w hr hc (inv_eq l 33 (by omega))).mono ?_
  rintro e w' ⟨v, rfl, hR, hB⟩
  obtain ⟨A2, c2, rfl⟩ := Kd.R_slice hR
  exact ⟨A2, c2, rfl, hR, hB⟩
theorem rcinverse_any (A : Option Addr) (c : Nat) (l : List Kn) (w : World) (hr : Kd.C k72 w A l.length l) (hc : l.length ≤ c) :
    Calls Try.prog 56 #[.slice A l.length c] w fun e w' => ∃ A2 c2, e = .returned (.tuple #[.slice A2 (invK l).length c2, .int .i64 (invE l)]) ∧ Kd.R k72 72 w' w.heap.size (fun _ => True) (.slice A2 (invK l).length c2) (invK l) ∧ Below w.heap.size w w' := by
  refine (imageeditorref07_Inverse.calls 33 A c l _ _ w hr hc (rinv_eq l 33 (by omega))).mono ?_
  rintro e w' ⟨v, rfl, hR, hB⟩
  obtain ⟨A2, c2, rfl⟩ := Kd.R_slice hR
  exact ⟨A2, c2, rfl, hR, hB⟩
set_option maxRecDepth 20000 in
set_option maxHeartbeats 2000000 in
theorem newEncoder_any (nm : ByteArray) (A : Option Addr) (c : Nat) (l : List Kn) (m : Nat → Int) (w : World) (hr : Kd.C k72 w A l.length l) (hc : l.length ≤ c) :
    Calls Try.prog 35 #[.agg (profC nm (.slice A l.length c) m)] w fun e w' => ∃ A2 c2, e = .returned (.agg (encC (invV m) (.slice A2 (invK l).length c2))) ∧ Kd.R k72 72 w' w.heap.size (fun _ => True) (.slice A2 (invK l).length c2) (invK l) ∧ Below w.heap.size w w' := by
  have HI := Lib.hid (fun w => inverse_any m w)
  have HC : Hid (∀ w', Below w.heap.size w w' → Calls Try.prog 68 #[.slice A l.length c] w' fun e w'' => ∃ A2 c2, e = .returned (.tuple #[.slice A2 (invK l).length c2, .int .i64 (invE l)]) ∧ Kd.R k72 72 w'' w'.heap.size (fun _ => True) (.slice A2 (invK l).length c2) (invK l) ∧ Below w'.heap.size w' w'') := fun w' hb => cinverse_any A c l w' (Kd.C_below hr hb) hc
  go_enter Try.func35, Try.ntmps35
  go_upto_region 1 with fail
  have h0 : holdsC ((w.alloc (.cells (profC nm (.slice A l.length c) m) 25)).alloc (.cells #[.int .i64 0, .int .i64 0, .int .i64 0, .int .i64 0, .int .i64 0, .int .i64 0, .int .i64 0, .int .i64 0, .int .i64 0, .slice none 0 0] 59)) w.heap.size 25 (profC nm (.slice A l.length c) m) := by
    have h : holdsC (w.alloc (.cells (profC nm (.slice A l.length c) m) 25)) w.heap.size 25 (profC nm (.slice A l.length c) m) := heap_alloc_new _ _
    have h := (h.alloc (.cells #[.int .i64 0, .int .i64 0, .int .i64 0, .int .i64 0, .int .i64 0, .int .i64 0, .int .i64 0, .int .i64 0, .int .i64 0, .slice none 0 0] 59))
    exact h
  have h1 : holdsC ((w.alloc (.cells (profC nm (.slice A l.length c) m) 25)).alloc (.cells #[.int .i64 0, .int .i64 0, .int .i64 0, .int .i64 0, .int .i64 0, .int .i64 0, .int .i64 0, .int .i64 0, .int .i64 0, .slice none 0 0] 59)) (w.heap.size + 1) 59 #[.int .i64 0, .int .i64 0, .int .i64 0, .int .i64 0, .int .i64 0, .int .i64 0, .int .i64 0, .int .i64 0, .int .i64 0, .slice none 0 0] := by
    have h : holdsC ((w.alloc (.cells (profC nm (.slice A l.length c) m) 25)).alloc (.cells #[.int .i64 0, .int .i64 0, .int .i64 0, .int .i64 0, .int .i64 0, .int .i64 0, .int .i64 0, .int .i64 0, .int .i64 0, .slice none 0 0] 59)) (w.alloc (.cells (profC nm (.slice A l.length c) m) 25)).heap.size 59 #[.int .i64 0, .int .i64 0, .int .i64 0, .int .i64 0, .int .i64 0, .int .i64 0, .int .i64 0, .int .i64 0, .int .i64 0, .slice none 0 0] := heap_alloc_new _ _
    have h := h
    simpa using h
  have hb : Below w.heap.size w ((w.alloc (.cells (profC nm (.slice A l.length c) m) 25)).alloc (.cells #[.int .i64 0, .int .i64 0, .int .i64 0, .int .i64 0, .int .i64 0, .int .i64 0, .int .i64 0, .int .i64 0, .int .i64 0, .slice none 0 0] 59)) := (((Below.refl _ _).alloc (Nat.le_refl _) _).alloc (by simp) _)
  generalize ((w.alloc (.cells (profC nm (.slice A l.length c) m) 25)).alloc (.cells #[.int .i64 0, .int .i64 0, .int .i64 0, .int .i64 0, .int .i64 0, .int .i64 0, .int .i64 0, .int .i64 0, .int .i64 0, .slice none 0 0] 59)) = wc at *
  generalize hB : w.heap.size = B at *
  have HB := Lib.hid hB
  clear hB
  go_wp2_with (refine wpList_load_M rfl (.tmp 8) rfl rfl h0 ?_)
  refine (HI.out _).mono ?_; rintro e w1 ⟨rfl, b1⟩
  have g0_ := h0.kept b1 h0.lt
  have g1_ := h1.kept b1 h1.lt
  have gb_ := hb.trans (b1.mono (Nat.le_trans (Nat.le_of_eq HB.out.symm) hb.size))
  clear h0 h1 hb b1
  have H3 : holdsC (w1.alloc (.cells #[.int .i64 0, .int .i64 0, .int .i64 0, .int .i64 0, .int .i64 0, .int .i64 0, .int .i64 0, .int .i64 0, .int .i64 0] 23)) w1.heap.size 23 #[.int .i64 0, .int .i64 0, .int .i64 0, .int .i64 0, .int .i64 0, .int .i64 0, .int .i64 0, .int .i64 0, .int .i64 0] := heap_alloc_new _ _
  have a0 := (g0_.alloc (.cells #[.int .i64 0, .int .i64 0, .int .i64 0, .int .i64 0, .int .i64 0, .int .i64 0, .int .i64 0, .int .i64 0, .int .i64 0] 23)).setRowOther (g' := w1.heap.size) (by have := g0_.lt; omega) (arrN 9 (invV m))
  have a1 := (g1_.alloc (.cells #[.int .i64 0, .int .i64 0, .int .i64 0, .int .i64 0, .int .i64 0, .int .i64 0, .int .i64 0, .int .i64 0, .int .i64 0] 23)).setRowOther (g' := w1.heap.size) (by have := g1_.lt; omega) (arrN 9 (invV m))
  have a2 := holdsC_row H3 (arrN 9 (invV m))
  have hne : w1.heap.size ≠ B + 1 := by have := g1_.lt; omega
  have ab := below_setRow (gb_.alloc (by rw [← HB.out]; exact gb_.size) (.cells #[.int .i64 0, .int .i64 0, .int .i64 0, .int .i64 0, .int .i64 0, .int .i64 0, .int .i64 0, .int .i64 0, .int .i64 0] 23)) (by rw [← HB.out]; exact gb_.size) (arrN 9 (invV m))
  go_upto_region 2 with (first | (refine wpList_store_arr rfl 23 (.tmp 3) (.tmp 11) rfl rfl rfl H3 rfl hi9 ?_))
  clear H3 g0_ g1_ gb_
  generalize (w1.alloc (.cells #[.int .i64 0, .int .i64 0, .int .i64 0, .int .i64 0, .int .i64 0, .int .i64 0, .int .i64 0, .int .i64 0, .int .i64 0] 23)).setRow w1.heap.size (arrN 9 (invV m)) = w2 at *
  generalize w1.heap.size = q at *
  have c1 := holdsP.c1 (show holdsP w2 B _ nm (.slice A l.length c) m from a0)
  go_wp2_with fail
  clear c1
  refine (HC.out _ ab).mono ?_; rintro e w3 ⟨A2, c2, rfl, hR, b1⟩
  have d1 := a1.kept b1 a1.lt
  have d2 := a2.kept b1 a2.lt
  have db := ab.trans (b1.mono (Nat.le_trans (Nat.le_of_eq HB.out.symm) ab.size))
  have hR := Kd.R_lower (R_setRow hR (g := B + 1) a1.lt (encC (invV m) (.slice A2 (invK l).length c2))) ab.size
  clear a0 a1 a2 ab b1
  go_wp2_with (first | (refine wpList_load_arr rfl 23 (.tmp 3) rfl rfl (show holdsN w3 q 23 9 (invV m) from d2) Try.underlying23 hi9 ?_) | (refine wpList_build_as rfl 59 _ rfl (encC (invV m) (.slice A2 (invK l).length c2)) (by kernel_rfl) ?_) | (refine wpList_store_row rfl 59 (.tmp 2) (.tmp 21) rfl (B + 1) (encC (invV m) (.slice A2 (invK l).length c2)) rfl rfl 59 _ d1 (encC_info _ _) (by rw [encC_size]; rfl) (encC_one _ _ rfl) ?_))
  refine bodyPost_ret (v := .agg (encC (invV m) (.slice A2 (invK l).length c2))) (results_cell_row rfl _ _ (B + 1) 59 _ _ _ rfl (holdsC_row d1 _) Try.underlying59 rfl (encC_info _ _)) rfl ?_
  exact ⟨A2, c2, rfl, hR, by rw [HB.out]; exact below_setRow db (by omega) _⟩
end Go.Proofs.Ytlpfepcmpccbeaa.Pf
/-
  encoder.encode.
-/
namespace Go.Proofs.Ytlpfepcmpccbeaa.Pf
open Go.RowKit Go.Proofs.Ytlpfepcmpccbeaa.NM Go.Proofs.Ytlpfepcmpccbeaa.Cv Go.Proofs.Ytlpfepcmpccbeaa.Nm9 Go.Proofs.Ytlpfepcmpccbeaa.Mx Go.Proofs.Ytlpfepcmpccbeaa.PNum Go.Proofs.YtlpfepcmpccbeaaW.PrintWords Go.Proofs.YtlpfepcmpccbeaaW.PrintMore Go.Proofs.YtlpfepcmpccbeaaW.PrintLast
set_option linter.unusedVariables false
/-- the pixel of a color: l the inverse curve, m the inverse matrix -/
def encE (l : List Kn) (m v : Nat → Int) (a : Int) (i : Nat) : Int := if lim a = 0 then 0 else if i = 3 then lim a else atK l (lim (applyM m v i))
theorem wpList_load_E {ops : Array Oper} {rest : List Oper} {o : Oper} {a : Act} {w : World} {Q : Exit → Act → World → Prop} (hgd : o.guard = none) (x : Operand) (ho : o.op = .load 23 x)
    {g t : Nat} {s : Value} {m : Nat → Int} (hx : a.eval x = .pointer (some ⟨g, 0, none⟩)) (hh : holdsC w g t (encC m s))
    (h : wpList Try.prog ops Q rest (a.put o.dst (.agg (arrN 9 m))) w) : wpList Try.prog ops Q (o :: rest) a w := by
  have hc : w.rangeAt g 0 (arrN 9 m).toList := by
    intro j u hu
    have hj : j < 9 := by
      have := (List.getElem?_eq_some_iff.1 hu).1
      simpa [arrN] using this
    rw [Nat.zero_add, hh.cell j _ (encC_m m s j hj)]
    have h2 := arrN_get 9 m j hj
    rw [← Array.getElem?_toList] at h2
    rw [← h2]; exact hu
  exact wpList_load_mid hgd 23 x ho g 0 hx (arrN 9 m).toList _ hc Try.underlying23 rfl (by rw [Array.length_toList, arrN_size]; exact hi9) h
theorem exec_storeI {o : Oper} {a : Act} {w : World} {x y : Operand} {ty g t k : Nat} {v : Value} {c : Array Value} (ho : o.op = .store ty x y) (hx : a.eval x = .pointer (some ⟨g, k, none⟩)) (hy : a.eval y = v) (hv : v.oneCell' = true) (hv2 : v.cells = #[v]) (hi : (Try.prog.info? ty).map (·.size) = some 1) (hh : holdsC w g t c) (hk : k < c.size) :
    (execOp a.eval o).run Try.prog w = .ok .skip (w.setRow g (c.setIfInBounds k v)) := by
  have hadd : (⟨g, k, none⟩ : Addr).add 0 = ⟨g, k, none⟩ := by unfold Addr.add; split <;> simp_all
  have hcell : w.cell? ⟨g, k, none⟩ = some c[k] := hh.cell k _ (Array.getElem?_eq_getElem hk)
  have hh' : w.heap[g]? = some (.cells c t (0, 0)) := hh
  have hfro : w.frozen? ⟨g, k, none⟩ = false := by simp [World.frozen?, hh']
  have hst : (store ((⟨g, k, none⟩ : Addr).add 0) v).run Try.prog w = .ok () (w.setRow g (c.setIfInBounds k v)) := by
    rw [hadd, run_store Try.prog w _ v _ hv, hcell]
    simp [hfro, setCell_eq_setRow w g k c t (0, 0) v hh']
  unfold execOp
  cases hq : Try.prog.info? ty with
  | none => simp [hq] at hi
  | some i =>
    have hs : i.size = 1 := by simpa [hq] using hi
    simp [ho, hx, hy, Instr.storeAt, Instr.sureAddr, storeVar, sizeOf, typeInfo, hq, hs, hv2, storeCells, hst]
set_option maxRecDepth 20000 in
set_option maxHeartbeats 2000000 in
theorem encode_any (A : Option Addr) (c : Nat) (l : List Kn) (m v : Nat → Int) (a : Int) (w : World) (hr : Kd.C k72 w A l.length l) (hc : l.length ≤ c) :
    Calls Try.prog 36 #[.agg (encC m (.slice A l.length c)), .agg (arrN 3 v), .int .i64 a] w fun e w' => e = .returned (.agg (pixC (encE l m v a 0) (encE l m v a 1) (encE l m v a 2) (encE l m v a 3))) ∧ Below w.heap.size w w' := by
  have HAT : Hid (∀ x w', Below w.heap.size w w' → Calls Try.prog 70 #[.slice A l.length c, .int .i64 x] w' fun e w'' => e = .returned (.int .i64 (atK l x)) ∧ Below w'.heap.size w' w'') := fun x w' hb => at_any A c l x w' (Kd.C_below hr hb) hc
  have HAP := Lib.hid (fun w => apply_any m v w)
  have HLI := Lib.hid (fun w => limit_any (applyM m v 0) (applyM m v 1) (applyM m v 2) a w)
  have HE : Hid (∀ i, encE l m v a i = if lim a = 0 then 0 else if i = 3 then lim a else atK l (lim (applyM m v i))) := fun i => rfl
  generalize applyM m v = av at *
  go_enter Try.func36, Try.ntmps36
  go_upto_region 1 with fail
  have h0 : holdsC (((w.alloc (.cells (encC m (.slice A l.length c)) 59)).alloc (.cells (arrN 3 v) 47)).alloc (.cells #[.int .i64 0, .int .i64 0, .int .i64 0, .int .i64 0] 35)) w.heap.size 59 (encC m (.slice A l.length c)) := by
    have h : holdsC (w.alloc (.cells (encC m (.slice A l.length c)) 59)) w.heap.size 59 (encC m (.slice A l.length c)) := heap_alloc_new _ _
    have h := ((h.alloc (.cells (arrN 3 v) 47)).alloc (.cells #[.int .i64 0, .int .i64 0, .int .i64 0, .int .i64 0] 35))
    exact h
  have h1 : holdsC (((w.alloc (.cells (encC m (.slice A l.length c)) 59)).alloc (.cells (arrN 3 v) 47)).alloc (.cells #[.int .i64 0, .int .i64 0, .int .i64 0, .int .i64 0] 35)) (w.heap.size + 1) 47 (arrN 3 v) := by
    have h : holdsC ((w.alloc (.cells (encC m (.slice A l.length c)) 59)).alloc (.cells (arrN 3 v) 47)) (w.alloc (.cells (encC m (.slice A l.length c)) 59)).heap.size 47 (arrN 3 v) := heap_alloc_new _ _
    have h := (h.alloc (.cells #[.int .i64 0, .int .i64 0, .int .i64 0, .int .i64 0] 35))
    simpa using h
  have h2 : holdsC (((w.alloc (.cells (encC m (.slice A l.length c)) 59)).alloc (.cells (arrN 3 v) 47)).alloc (.cells #[.int .i64 0, .int .i64 0, .int .i64 0, .int .i64 0] 35)) (w.heap.size + 1 + 1) 35 #[.int .i64 0, .int .i64 0, .int .i64 0, .int .i64 0] := by
    have h : holdsC (((w.alloc (.cells (encC m (.slice A l.length c)) 59)).alloc (.cells (arrN 3 v) 47)).alloc (.cells #[.int .i64 0, .int .i64 0, .int .i64 0, .int .i64 0] 35)) ((w.alloc (.cells (encC m (.slice A l.length c)) 59)).alloc (.cells (arrN 3 v) 47)).heap.size 35 #[.int .i64 0, .int .i64 0, .int .i64 0, .int .i64 0] := heap_alloc_new _ _
    have h := h
    simpa using h
  have hb : Below w.heap.size w (((w.alloc (.cells (encC m (.slice A l.length c)) 59)).alloc (.cells (arrN 3 v) 47)).alloc (.cells #[.int .i64 0, .int .i64 0, .int .i64 0, .int .i64 0] 35)) := ((((Below.refl _ _).alloc (Nat.le_refl _) _).alloc (by simp) _).alloc (by simp; omega) _)
  generalize (((w.alloc (.cells (encC m (.slice A l.length c)) 59)).alloc (.cells (arrN 3 v) 47)).alloc (.cells #[.int .i64 0, .int .i64 0, .int .i64 0, .int .i64 0] 35)) = wc at *
  generalize hB : w.heap.size = B at *
  have HB := Lib.hid hB
  clear hB
  go_wp2_with (first
    | (refine wpList_load_E rfl (.tmp 9) rfl rfl h0 ?_)
    | (refine wpList_load_row rfl 47 (.tmp 4) rfl (B + 1) rfl 47 (arrN 3 v) (0, 0) _ h1 Try.underlying47 rfl (by rw [arrN_size]; kernel_rfl) ?_))
  refine (HAP.out _).mono ?_; rintro e w1 ⟨rfl, b1⟩
  have g0_ := h0.kept b1 h0.lt
  have g1_ := h1.kept b1 h1.lt
  have g2_ := h2.kept b1 h2.lt
  have gb_ := hb.trans (b1.mono (Nat.le_trans (Nat.le_of_eq HB.out.symm) hb.size))
  clear h0 h1 h2 hb b1
  have H3 : holdsC (w1.alloc (.cells #[.int .i64 0, .int .i64 0, .int .i64 0] 47)) w1.heap.size 47 #[.int .i64 0, .int .i64 0, .int .i64 0] := heap_alloc_new _ _
  have k0_ := (g0_.alloc (.cells #[.int .i64 0, .int .i64 0, .int .i64 0] 47)).setRowOther (g' := w1.heap.size) (by have := g0_.lt; omega) (arrN 3 (av))
  have nk0_ : B < w1.heap.size := g0_.lt
  have k1_ := (g1_.alloc (.cells #[.int .i64 0, .int .i64 0, .int .i64 0] 47)).setRowOther (g' := w1.heap.size) (by have := g1_.lt; omega) (arrN 3 (av))
  have nk1_ : (B + 1) < w1.heap.size := g1_.lt
  have k2_ := (g2_.alloc (.cells #[.int .i64 0, .int .i64 0, .int .i64 0] 47)).setRowOther (g' := w1.heap.size) (by have := g2_.lt; omega) (arrN 3 (av))
  have nk2_ : (B + 1 + 1) < w1.heap.size := g2_.lt
  have k3_ := holdsC_row H3 (arrN 3 (av))
  have nq1 : B ≤ w1.heap.size := by rw [← HB.out]; exact gb_.size
  have kb_ := below_setRow (gb_.alloc nq1 (.cells #[.int .i64 0, .int .i64 0, .int .i64 0] 47)) nq1 (arrN 3 (av))
  go_upto_region 2 with (first | (refine wpList_store_arr rfl 47 (.tmp 7) (.tmp 12) rfl rfl rfl H3 rfl hi3 ?_))
  clear H3 g0_ g1_ g2_ gb_
  generalize (w1.alloc (.cells #[.int .i64 0, .int .i64 0, .int .i64 0] 47)).setRow w1.heap.size (arrN 3 (av)) = w2 at *
  generalize w1.heap.size = q1 at *
  have p0 := k3_.cell 0 (.int .i64 (av 0)) (arrN_get 3 _ 0 (by omega))
  have p1 := k3_.cell 1 (.int .i64 (av 1)) (arrN_get 3 _ 1 (by omega))
  have p2 := k3_.cell 2 (.int .i64 (av 2)) (arrN_get 3 _ 2 (by omega))
  go_wp2_with fail
  clear p0 p1 p2
  refine (HLI.out _).mono ?_; rintro e w3 ⟨rfl, b1⟩
  have u0_ := k0_.kept b1 k0_.lt
  have u1_ := k1_.kept b1 k1_.lt
  have u2_ := k2_.kept b1 k2_.lt
  have u3_ := k3_.kept b1 k3_.lt
  have ub_ := kb_.trans (b1.mono (Nat.le_trans (Nat.le_of_eq HB.out.symm) kb_.size))
  clear k0_ k1_ k2_ k3_ kb_ b1
  have H3 : holdsC (w3.alloc (.cells #[.int .i64 0, .int .i64 0, .int .i64 0, .int .i64 0] 35)) w3.heap.size 35 #[.int .i64 0, .int .i64 0, .int .i64 0, .int .i64 0] := heap_alloc_new _ _
  have v0_ := (u0_.alloc (.cells #[.int .i64 0, .int .i64 0, .int .i64 0, .int .i64 0] 35)).setRowOther (g' := w3.heap.size) (by have := u0_.lt; omega) (pixC (lim (av 0)) (lim (av 1)) (lim (av 2)) (lim a))
  have nv0_ : B < w3.heap.size := u0_.lt
  have v1_ := (u1_.alloc (.cells #[.int .i64 0, .int .i64 0, .int .i64 0, .int .i64 0] 35)).setRowOther (g' := w3.heap.size) (by have := u1_.lt; omega) (pixC (lim (av 0)) (lim (av 1)) (lim (av 2)) (lim a))
  have nv1_ : (B + 1) < w3.heap.size := u1_.lt
  have v2_ := (u2_.alloc (.cells #[.int .i64 0, .int .i64 0, .int .i64 0, .int .i64 0] 35)).setRowOther (g' := w3.heap.size) (by have := u2_.lt; omega) (pixC (lim (av 0)) (lim (av 1)) (lim (av 2)) (lim a))
  have nv2_ : (B + 1 + 1) < w3.heap.size := u2_.lt
  have v3_ := (u3_.alloc (.cells #[.int .i64 0, .int .i64 0, .int .i64 0, .int .i64 0] 35)).setRowOther (g' := w3.heap.size) (by have := u3_.lt; omega) (pixC (lim (av 0)) (lim (av 1)) (lim (av 2)) (lim a))
  have nv3_ : q1 < w3.heap.size := u3_.lt
  have v4_ := holdsC_row H3 (pixC (lim (av 0)) (lim (av 1)) (lim (av 2)) (lim a))
  have nq2 : B ≤ w3.heap.size := by rw [← HB.out]; exact ub_.size
  have vb_ := below_setRow (ub_.alloc nq2 (.cells #[.int .i64 0, .int .i64 0, .int .i64 0, .int .i64 0] 35)) nq2 (pixC (lim (av 0)) (lim (av 1)) (lim (av 2)) (lim a))
  go_upto_region 3 with (first | (refine wpList_store_row rfl 35 (.tmp 8) (.tmp 21) rfl _ (pixC (lim (av 0)) (lim (av 1)) (lim (av 2)) (lim a)) rfl rfl 35 _ H3 (by kernel_rfl) rfl (by kernel_rfl) ?_))
  clear H3 u0_ u1_ u2_ u3_ ub_
  generalize (w3.alloc (.cells #[.int .i64 0, .int .i64 0, .int .i64 0, .int .i64 0] 35)).setRow w3.heap.size (pixC (lim (av 0)) (lim (av 1)) (lim (av 2)) (lim a)) = w4 at *
  generalize w3.heap.size = q2 at *
  have p3 := v4_.cell 3 (.int .i64 (lim a)) rfl
  by_cases hz : lim a = 0
  · have hz' : (lim a == 0) = true := by simpa using hz
    have HE0 : Hid (∀ i, encE l m v a i = 0) := fun i => by rw [HE.out, if_pos hz]
    rw [hz] at p3
    go_wp2_with (first
      | (refine wpList_build_as rfl 35 _ rfl #[.int .i64 0, .int .i64 0, .int .i64 0, .int .i64 0] (by kernel_rfl) ?_)
      | (refine wpList_store_row rfl 35 (.tmp 6) (.tmp 25) rfl (B + 1 + 1) #[.int .i64 0, .int .i64 0, .int .i64 0, .int .i64 0] rfl rfl 35 _ v2_ (by kernel_rfl) rfl (by kernel_rfl) ?_))
    refine bodyPost_ret (v := .agg #[.int .i64 0, .int .i64 0, .int .i64 0, .int .i64 0]) (results_cell_row rfl _ _ (B + 1 + 1) 35 _ _ _ rfl (holdsC_row v2_ _) Try.underlying35 rfl (by kernel_rfl)) rfl ?_
    exact ⟨by rw [HE0.out, HE0.out, HE0.out, HE0.out]; rfl, by rw [HB.out]; exact below_setRow vb_ (by omega) _⟩
  · have hz' : (lim a == 0) = false := by simpa using hz
    have HE0 : Hid (∀ i, encE l m v a i = if i = 3 then lim a else atK l (lim (av i))) := fun i => by rw [HE.out, if_neg hz]
    go_upto_region 5 with fail
    clear p3
    have k0 := v0_
    have k2 := v2_
    have k4 := v4_
    have HK := Lib.hid vb_
    clear v0_ v1_ v2_ v3_ v4_ vb_
    refine start_ (n := 21) (S := fun w' => holdsC w' B 59 (encC m (.slice A l.length c)) ∧ holdsC w' (B + 1 + 1) 35 #[.int .i64 0, .int .i64 0, .int .i64 0, .int .i64 0] ∧ holdsC w' q2 35 (pixC (lim (av 0)) (lim (av 1)) (lim (av 2)) (lim a))) (ds := [16, 18, 20]) #[false, false, false, false, false, false, false, false, false, false, false, false, false, false, false, false, false, false, false, false, false] (by kernel_rfl) rfl rfl ⟨k0, k2, k4⟩ (fun hHeld => ?_)
    have HK := Lib.hid HK.out.drew
    refine pure_ (i := 0) (N := some 26) (v := ?_) (a' := ?_) #[true, false, false, false, false, false, false, false, false, false, false, false, false, false, false, false, false, false, false, false, false] rfl rfl (by kernel_rfl) (fun _ _ _ h => h) (Or.inl ⟨by rfl, ?_⟩) ?_ ?_
    rotate_left
    · intro w'
      go_simp
      with_reducible rfl
    rotate_left
    · simp only [Act.put, List.setIfInBounds_toArray, List.set_cons_zero, List.set_cons_succ]
      rfl
    refine take_ (i := 1) (N := some 27) (v := ?_) (a' := ?_) #[true, true, false, false, false, false, false, false, false, false, false, false, false, false, false, false, false, false, false, false, false] rfl rfl (by kernel_rfl) (fun _ _ _ h => h) (Or.inl ⟨by rfl, ?_⟩) hHeld ?_ ?_
    rotate_left
    · rintro w' ⟨s0, s1, s2⟩
      have c1 := s0.cell 9 _ (encC_k _ _)
      go_simp
      with_reducible rfl
    rotate_left
    · simp only [Act.put, List.setIfInBounds_toArray, List.set_cons_zero, List.set_cons_succ]
      rfl
    refine pure_ (i := 2) (N := some 28) (v := ?_) (a' := ?_) #[true, true, true, false, false, false, false, false, false, false, false, false, false, false, false, false, false, false, false, false, false] rfl rfl (by kernel_rfl) (fun _ _ _ h => h) (Or.inl ⟨by rfl, ?_⟩) ?_ ?_
    rotate_left
    · intro w'
      go_simp
      with_reducible rfl
    rotate_left
    · simp only [Act.put, List.setIfInBounds_toArray, List.set_cons_zero, List.set_cons_succ]
      rfl
    refine take_ (i := 3) (N := some 29) (v := ?_) (a' := ?_) #[true, true, true, true, false, false, false, false, false, false, false, false, false, false, false, false, false, false, false, false, false] rfl rfl (by kernel_rfl) (fun _ _ _ h => h) (Or.inl ⟨by rfl, ?_⟩) hHeld ?_ ?_
    rotate_left
    · rintro w' ⟨s0, s1, s2⟩
      have c1 := s2.cell 0 (.int .i64 (lim (av 0))) rfl
      go_simp
      with_reducible rfl
    rotate_left
    · simp only [Act.put, List.setIfInBounds_toArray, List.set_cons_zero, List.set_cons_succ]
      rfl
    refine pure_ (i := 5) (N := some 31) (v := ?_) (a' := ?_) #[true, true, true, true, false, true, false, false, false, false, false, false, false, false, false, false, false, false, false, false, false] rfl rfl (by kernel_rfl) (fun _ _ _ h => h) (Or.inl ⟨by rfl, ?_⟩) ?_ ?_
    rotate_left
    · intro w'
      go_simp
      with_reducible rfl
    rotate_left
    · simp only [Act.put, List.setIfInBounds_toArray, List.set_cons_zero, List.set_cons_succ]
      rfl
    refine take_ (i := 6) (N := some 32) (v := ?_) (a' := ?_) #[true, true, true, true, false, true, true, false, false, false, false, false, false, false, false, false, false, false, false, false, false] rfl rfl (by kernel_rfl) (fun _ _ _ h => h) (Or.inl ⟨by rfl, ?_⟩) hHeld ?_ ?_
    rotate_left
    · rintro w' ⟨s0, s1, s2⟩
      have c1 := s0.cell 9 _ (encC_k _ _)
      go_simp
      with_reducible rfl
    rotate_left
    · simp only [Act.put, List.setIfInBounds_toArray, List.set_cons_zero, List.set_cons_succ]
      rfl
    refine pure_ (i := 7) (N := some 33) (v := ?_) (a' := ?_) #[true, true, true, true, false, true, true, true, false, false, false, false, false, false, false, false, false, false, false, false, false] rfl rfl (by kernel_rfl) (fun _ _ _ h => h) (Or.inl ⟨by rfl, ?_⟩) ?_ ?_
    rotate_left
    · intro w'
      go_simp
      with_reducible rfl
    rotate_left
    · simp only [Act.put, List.setIfInBounds_toArray, List.set_cons_zero, List.set_cons_succ]
      rfl
    refine take_ (i := 8) (N := some 34) (v := ?_) (a' := ?_) #[true, true, true, true, false, true, true, true, true, false, false, false, false, false, false, false, false, false, false, false, false] rfl rfl (by kernel_rfl) (fun _ _ _ h => h) (Or.inl ⟨by rfl, ?_⟩) hHeld ?_ ?_
    rotate_left
    · rintro w' ⟨s0, s1, s2⟩
      have c1 := s2.cell 1 (.int .i64 (lim (av 1))) rfl
      go_simp
      with_reducible rfl
    rotate_left
    · simp only [Act.put, List.setIfInBounds_toArray, List.set_cons_zero, List.set_cons_succ]
      rfl
    refine pure_ (i := 10) (N := some 36) (v := ?_) (a' := ?_) #[true, true, true, true, false, true, true, true, true, false, true, false, false, false, false, false, false, false, false, false, false] rfl rfl (by kernel_rfl) (fun _ _ _ h => h) (Or.inl ⟨by rfl, ?_⟩) ?_ ?_
    rotate_left
    · intro w'
      go_simp
      with_reducible rfl
    rotate_left
    · simp only [Act.put, List.setIfInBounds_toArray, List.set_cons_zero, List.set_cons_succ]
      rfl
    refine take_ (i := 11) (N := some 37) (v := ?_) (a' := ?_) #[true, true, true, true, false, true, true, true, true, false, true, true, false, false, false, false, false, false, false, false, false] rfl rfl (by kernel_rfl) (fun _ _ _ h => h) (Or.inl ⟨by rfl, ?_⟩) hHeld ?_ ?_
    rotate_left
    · rintro w' ⟨s0, s1, s2⟩
      have c1 := s0.cell 9 _ (encC_k _ _)
      go_simp
      with_reducible rfl
    rotate_left
    · simp only [Act.put, List.setIfInBounds_toArray, List.set_cons_zero, List.set_cons_succ]
      rfl
    refine pure_ (i := 12) (N := some 38) (v := ?_) (a' := ?_) #[true, true, true, true, false, true, true, true, true, false, true, true, true, false, false, false, false, false, false, false, false] rfl rfl (by kernel_rfl) (fun _ _ _ h => h) (Or.inl ⟨by rfl, ?_⟩) ?_ ?_
    rotate_left
    · intro w'
      go_simp
      with_reducible rfl
    rotate_left
    · simp only [Act.put, List.setIfInBounds_toArray, List.set_cons_zero, List.set_cons_succ]
      rfl
    refine take_ (i := 13) (N := some 39) (v := ?_) (a' := ?_) #[true, true, true, true, false, true, true, true, true, false, true, true, true, true, false, false, false, false, false, false, false] rfl rfl (by kernel_rfl) (fun _ _ _ h => h) (Or.inl ⟨by rfl, ?_⟩) hHeld ?_ ?_
    rotate_left
    · rintro w' ⟨s0, s1, s2⟩
      have c1 := s2.cell 2 (.int .i64 (lim (av 2))) rfl
      go_simp
      with_reducible rfl
    rotate_left
    · simp only [Act.put, List.setIfInBounds_toArray, List.set_cons_zero, List.set_cons_succ]
      rfl
    refine one_ (i := 4) (N := some 30) #[true, true, true, true, true, true, true, true, true, false, true, true, true, true, false, false, false, false, false, false, false] rfl rfl (by kernel_rfl) (by decide) (fun K hK => ?_)
    refine goes_ Try.func70 (by kernel_rfl) rfl #[.slice A l.length c, .int .i64 (lim (av 0))] (by rfl) rfl rfl (by simp only [List.map_toArray, List.map_cons, List.map_nil]; rfl) ?_
    refine (HAT.out (lim (av 0)) _ HK.out).mono ?_
    rintro e W1 ⟨rfl, b1⟩
    refine ⟨_, rfl, ?_⟩
    have HK := Lib.hid (HK.out.trans (b1.mono (Nat.le_trans (Nat.le_of_eq HB.out.symm) HK.out.size)))
    have q0 := hHeld.1.kept b1 hHeld.1.lt
    have q2_ := hHeld.2.1.kept b1 hHeld.2.1.lt
    have q4_ := hHeld.2.2.kept b1 hHeld.2.2.lt
    refine hK.out _ _ ⟨q0, q2_, q4_⟩ (fun hHeld => ?_)
    clear hK K b1
    refine norm_ (a' := ?_) ?_ ?_
    rotate_left
    · show Act.put _ (some 30) _ = _
      simp only [Act.put, List.setIfInBounds_toArray, List.set_cons_zero, List.set_cons_succ]
      rfl
    refine pure_ (i := 15) (N := some 41) (v := ?_) (a' := ?_) #[true, true, true, true, true, true, true, true, true, false, true, true, true, true, false, true, false, false, false, false, false] rfl rfl (by kernel_rfl) (fun _ _ _ h => h) (Or.inl ⟨by rfl, ?_⟩) ?_ ?_
    rotate_left
    · intro w'
      go_simp
      with_reducible rfl
    rotate_left
    · simp only [Act.put, List.setIfInBounds_toArray, List.set_cons_zero, List.set_cons_succ]
      rfl
    refine one_ (i := 9) (N := some 35) #[true, true, true, true, true, true, true, true, true, true, true, true, true, true, false, true, false, false, false, false, false] rfl rfl (by kernel_rfl) (by decide) (fun K hK => ?_)
    refine goes_ Try.func70 (by kernel_rfl) rfl #[.slice A l.length c, .int .i64 (lim (av 1))] (by rfl) rfl rfl (by simp only [List.map_toArray, List.map_cons, List.map_nil]; rfl) ?_
    refine (HAT.out (lim (av 1)) _ HK.out).mono ?_
    rintro e W1 ⟨rfl, b1⟩
    refine ⟨_, rfl, ?_⟩
    have HK := Lib.hid (HK.out.trans (b1.mono (Nat.le_trans (Nat.le_of_eq HB.out.symm) HK.out.size)))
    have q0 := hHeld.1.kept b1 hHeld.1.lt
    have q2_ := hHeld.2.1.kept b1 hHeld.2.1.lt
    have q4_ := hHeld.2.2.kept b1 hHeld.2.2.lt
    refine hK.out _ _ ⟨q0, q2_, q4_⟩ (fun hHeld => ?_)
    clear hK K b1
    refine norm_ (a' := ?_) ?_ ?_
    rotate_left
    · show Act.put _ (some 35) _ = _
      simp only [Act.put, List.setIfInBounds_toArray, List.set_cons_zero, List.set_cons_succ]
      rfl
    refine one_ (i := 14) (N := some 40) #[true, true, true, true, true, true, true, true, true, true, true, true, true, true, true, true, false, false, false, false, false] rfl rfl (by kernel_rfl) (by decide) (fun K hK => ?_)
    refine goes_ Try.func70 (by kernel_rfl) rfl #[.slice A l.length c, .int .i64 (lim (av 2))] (by rfl) rfl rfl (by simp only [List.map_toArray, List.map_cons, List.map_nil]; rfl) ?_
    refine (HAT.out (lim (av 2)) _ HK.out).mono ?_
    rintro e W1 ⟨rfl, b1⟩
    refine ⟨_, rfl, ?_⟩
    have HK := Lib.hid (HK.out.trans (b1.mono (Nat.le_trans (Nat.le_of_eq HB.out.symm) HK.out.size)))
    have q0 := hHeld.1.kept b1 hHeld.1.lt
    have q2_ := hHeld.2.1.kept b1 hHeld.2.1.lt
    have q4_ := hHeld.2.2.kept b1 hHeld.2.2.lt
    refine hK.out _ _ ⟨q0, q2_, q4_⟩ (fun hHeld => ?_)
    clear hK K b1
    refine norm_ (a' := ?_) ?_ ?_
    rotate_left
    · show Act.put _ (some 40) _ = _
      simp only [Act.put, List.setIfInBounds_toArray, List.set_cons_zero, List.set_cons_succ]
      rfl
    have u4 := hHeld.2.2
    have u2 := hHeld.2.1
    refine last_ (i := 16) (N := none) #[true, true, true, true, true, true, true, true, true, true, true, true, true, true, true, true, true, false, false, false, false] rfl rfl (by kernel_rfl) (by decide) (fun K hK => ?_)
    refine skip_ (by rfl) rfl (exec_storeI (k := 0) (v := .int .i64 (atK l (lim (av 0)))) rfl rfl rfl rfl rfl (by kernel_rfl) u4 (show 0 < 4 by omega)) ?_
    have e04 : holdsC _ q2 35 (pixC (atK l (lim (av 0))) (lim (av 1)) (lim (av 2)) (lim a)) := holdsC_row u4 _
    have e02 := u2.setRowOther (g' := q2) (by omega) (pixC (atK l (lim (av 0))) (lim (av 1)) (lim (av 2)) (lim a))
    have HK := Lib.hid (below_setRow HK.out nq2 (pixC (atK l (lim (av 0))) (lim (av 1)) (lim (av 2)) (lim a)))
    refine hK.out _ _ ?_
    clear hK K
    refine pure_ (i := 17) (N := some 42) (v := ?_) (a' := ?_) #[true, true, true, true, true, true, true, true, true, true, true, true, true, true, true, true, true, true, false, false, false] rfl rfl (by kernel_rfl) (fun _ _ _ h => h) (Or.inl ⟨by rfl, ?_⟩) ?_ ?_
    rotate_left
    · intro w'
      go_simp
      with_reducible rfl
    rotate_left
    · simp only [Act.put, List.setIfInBounds_toArray, List.set_cons_zero, List.set_cons_succ]
      rfl
    refine last_ (i := 18) (N := none) #[true, true, true, true, true, true, true, true, true, true, true, true, true, true, true, true, true, true, true, false, false] rfl rfl (by kernel_rfl) (by decide) (fun K hK => ?_)
    refine skip_ (by rfl) rfl (exec_storeI (k := 1) (v := .int .i64 (atK l (lim (av 1)))) rfl rfl rfl rfl rfl (by kernel_rfl) e04 (show 1 < 4 by omega)) ?_
    have e14 : holdsC _ q2 35 (pixC (atK l (lim (av 0))) (atK l (lim (av 1))) (lim (av 2)) (lim a)) := holdsC_row e04 _
    have e12 := e02.setRowOther (g' := q2) (by omega) (pixC (atK l (lim (av 0))) (atK l (lim (av 1))) (lim (av 2)) (lim a))
    have HK := Lib.hid (below_setRow HK.out nq2 (pixC (atK l (lim (av 0))) (atK l (lim (av 1))) (lim (av 2)) (lim a)))
    refine hK.out _ _ ?_
    clear hK K
    refine pure_ (i := 19) (N := some 43) (v := ?_) (a' := ?_) #[true, true, true, true, true, true, true, true, true, true, true, true, true, true, true, true, true, true, true, true, false] rfl rfl (by kernel_rfl) (fun _ _ _ h => h) (Or.inl ⟨by rfl, ?_⟩) ?_ ?_
    rotate_left
    · intro w'
      go_simp
      with_reducible rfl
    rotate_left
    · simp only [Act.put, List.setIfInBounds_toArray, List.set_cons_zero, List.set_cons_succ]
      rfl
    refine last_ (i := 20) (N := none) #[true, true, true, true, true, true, true, true, true, true, true, true, true, true, true, true, true, true, true, true, true] rfl rfl (by kernel_rfl) (by decide) (fun K hK => ?_)
    refine skip_ (by rfl) rfl (exec_storeI (k := 2) (v := .int .i64 (atK l (lim (av 2)))) rfl rfl rfl rfl rfl (by kernel_rfl) e14 (show 2 < 4 by omega)) ?_
    have e24 : holdsC _ q2 35 (pixC (atK l (lim (av 0))) (atK l (lim (av 1))) (atK l (lim (av 2))) (lim a)) := holdsC_row e14 _
    have e22 := e12.setRowOther (g' := q2) (by omega) (pixC (atK l (lim (av 0))) (atK l (lim (av 1))) (atK l (lim (av 2))) (lim a))
    have HK := Lib.hid (below_setRow HK.out nq2 (pixC (atK l (lim (av 0))) (atK l (lim (av 1))) (atK l (lim (av 2))) (lim a)))
    refine hK.out _ _ ?_
    clear hK K
    refine done_ (by kernel_rfl) ?_
    go_wp2_with (first | (refine wpList_load_row rfl 35 (.tmp 8) rfl q2 rfl 35 (pixC (atK l (lim (av 0))) (atK l (lim (av 1))) (atK l (lim (av 2))) (lim a)) (0, 0) _ e24 Try.underlying35 rfl (by kernel_rfl) ?_) | (refine wpList_store_row rfl 35 (.tmp 6) (.tmp 44) rfl (B + 1 + 1) (pixC (atK l (lim (av 0))) (atK l (lim (av 1))) (atK l (lim (av 2))) (lim a)) rfl rfl 35 _ e22 (by kernel_rfl) rfl (by kernel_rfl) ?_))
    refine bodyPost_ret (v := .agg (pixC (atK l (lim (av 0))) (atK l (lim (av 1))) (atK l (lim (av 2))) (lim a))) (results_cell_row rfl _ _ (B + 1 + 1) 35 _ _ _ rfl (holdsC_row e22 _) Try.underlying35 rfl (by kernel_rfl)) rfl ?_
    exact ⟨by rw [HE0.out, HE0.out, HE0.out, HE0.out]; rfl, by rw [HB.out]; exact below_setRow HK.out (by omega) _⟩
end Go.Proofs.Ytlpfepcmpccbeaa.Pf
/-
  profile.Encode.
-/
namespace Go.Proofs.Ytlpfepcmpccbeaa.Pf
open Go.RowKit Go.Proofs.Ytlpfepcmpccbeaa.NM Go.Proofs.Ytlpfepcmpccbeaa.Cv Go.Proofs.Ytlpfepcmpccbeaa.Nm9 Go.Proofs.Ytlpfepcmpccbeaa.Mx Go.Proofs.Ytlpfepcmpccbeaa.PNum Go.Proofs.YtlpfepcmpccbeaaW.PrintWords Go.Proofs.YtlpfepcmpccbeaaW.PrintMore Go.Proofs.YtlpfepcmpccbeaaW.PrintLast
set_option linter.unusedVariables false
def pixF (f : Nat → Int) : Array Value := pixC (f 0) (f 1) (f 2) (f 3)
theorem encode_any' (A : Option Addr) (c : Nat) (l : List Kn) (m v : Nat → Int) (a : Int) (w : World) (hr : Kd.C k72 w A l.length l) (hc : l.length ≤ c) :
    Calls Try.prog 36 #[.agg (encC m (.slice A l.length c)), .agg (arrN 3 v), .int .i64 a] w fun e w' => e = .returned (.agg (pixF (encE l m v a))) ∧ Below w.heap.size w w' := encode_any A c l m v a w hr hc
theorem results_row_tmp {fn : Func} {p u : Tmp} {ty : TypeId} (h : fn.results = #[.cell p ty, .tmp u]) (tmps : Array Value) (w : World) {g t : Nat} {cs : Array Value} (hp : tmps.getD p undef = .pointer (some ⟨g, 0, none⟩)) {v : Value} (hv : tmps.getD u undef = v)
    (hh : holdsC w g t cs) {d : TypeDesc} (hd : (match d with | .struct _ | .array _ _ => true | _ => false) = true) (hu : Try.prog.underlying ty = some d) (hi : (Try.prog.info? ty).map (·.size) = some cs.size) : (results fn tmps).run Try.prog w = .ok (.tuple #[.agg cs, v]) w := by
  subst hv
  rw [results_cell_tmp h, hp]
  have := run_loadVar_row (P := Try.prog) w g t ty cs (0, 0) d hh hu (by cases d <;> first | exact hd | cases hd) hi
  simp [asAddr, this, Result.andThen]
theorem exec_storeC {o : Oper} {a : Act} {w : World} {x y : Operand} {ty g t : Nat} {c old : Array Value} (ho : o.op = .store ty x y) (hx : a.eval x = .pointer (some ⟨g, 0, none⟩)) (hy : a.eval y = .agg c) (hh : holdsC w g t old) (hi : (Try.prog.info? ty).map (·.size) = some c.size) (hs : old.size = c.size) (h1 : c.all (·.oneCell') = true) :
    (execOp a.eval o).run Try.prog w = .ok .skip (w.setRow g c) := by
  unfold execOp
  simp only [ho, hx, hy, Instr.storeAt, Instr.sureAddr, Sem.run_bind, Sem.run_pure, Result.andThen_ok, run_storeVar_row w g t ty old c hh hi hs h1]
theorem exec_loadC {o : Oper} {a : Act} {w : World} {x : Operand} {ty g t : Nat} {c : Array Value} {d : TypeDesc} (ho : o.op = .load ty x) (hx : a.eval x = .pointer (some ⟨g, 0, none⟩)) (hh : holdsC w g t c) (hd : (match d with | .struct _ | .array _ _ => true | _ => false) = true) (hu : Try.prog.underlying ty = some d) (hi : (Try.prog.info? ty).map (·.size) = some c.size) :
    (execOp a.eval o).run Try.prog w = .ok (.value (.agg c)) w := by
  unfold execOp
  have := run_loadVar_row (P := Try.prog) w g t ty c (0, 0) d hh hu (by cases d <;> first | exact hd | cases hd) hi
  simp only [ho, hx, Instr.loadAt, Instr.sureAddr, Sem.run_bind, Sem.run_pure, Result.andThen_ok, this]
/-- the pixel of a color in a profile, if the profile is right -/
def encP (nm : ByteArray) (l : List Kn) (m v : Nat → Int) (a : Int) : Nat → Int := if profCheck nm l m = 0 then encE (invK l) (invV m) v a else fun _ => 0
set_option maxRecDepth 20000 in
set_option maxHeartbeats 2000000 in
theorem pEncode_any (nm : ByteArray) (A : Option Addr) (c : Nat) (l : List Kn) (m : Nat → Int) (v : Nat → Int) (a : Int) (w : World) (hs : nm.size ≤ 140737488355232) (hr : Kd.C k72 w A l.length l) (hc : l.length ≤ c) :
    Calls Try.prog 24 #[.agg (profC nm (.slice A l.length c) m), .agg (arrN 3 v), .int .i64 a] w fun e w' => e = .returned (.tuple #[.agg (pixF (encP nm l m v a)), .int .i64 (profCheck nm l m)]) ∧ Below w.heap.size w w' := by
  have HCK : Hid (∀ w', Below w.heap.size w w' → Calls Try.prog 22 #[.agg (profC nm (.slice A l.length c) m)] w' fun e w'' => e = .returned (.int .i64 (profCheck nm l m)) ∧ Below w'.heap.size w' w'') := fun w' hb => pcheck_any nm A c l m w' hs (Kd.C_below hr hb) hc
  have HN : Hid (∀ w', Below w.heap.size w w' → Calls Try.prog 35 #[.agg (profC nm (.slice A l.length c) m)] w' fun e w'' => ∃ A2 c2, e = .returned (.agg (encC (invV m) (.slice A2 (invK l).length c2))) ∧ Kd.R k72 72 w'' w'.heap.size (fun _ => True) (.slice A2 (invK l).length c2) (invK l) ∧ Below w'.heap.size w' w'') := fun w' hb => newEncoder_any nm A c l m w' (Kd.C_below hr hb) hc
  have HP : Hid (encP nm l m v a = if profCheck nm l m = 0 then encE (invK l) (invV m) v a else fun _ => 0) := rfl
  generalize profCheck nm l m = pc at *
  go_enter Try.func24, Try.ntmps24
  go_upto_region 1 with fail
  have h0 : holdsC (((w.alloc (.cells (profC nm (.slice A l.length c) m) 25)).alloc (.cells (arrN 3 v) 47)).alloc (.cells #[.int .i64 0, .int .i64 0, .int .i64 0, .int .i64 0] 35)) w.heap.size 25 (profC nm (.slice A l.length c) m) := by
    have h : holdsC (w.alloc (.cells (profC nm (.slice A l.length c) m) 25)) w.heap.size 25 (profC nm (.slice A l.length c) m) := heap_alloc_new _ _
    have h := ((h.alloc (.cells (arrN 3 v) 47)).alloc (.cells #[.int .i64 0, .int .i64 0, .int .i64 0, .int .i64 0] 35))
    exact h
  have h1 : holdsC (((w.alloc (.cells (profC nm (.slice A l.length c) m) 25)).alloc (.cells (arrN 3 v) 47)).alloc (.cells #[.int .i64 0, .int .i64 0, .int .i64 0, .int .i64 0] 35)) (w.heap.size + 1) 47 (arrN 3 v) := by
    have h : holdsC ((w.alloc (.cells (profC nm (.slice A l.length c) m) 25)).alloc (.cells (arrN 3 v) 47)) (w.alloc (.cells (profC nm (.slice A l.length c) m) 25)).heap.size 47 (arrN 3 v) := heap_alloc_new _ _
    have h := (h.alloc (.cells #[.int .i64 0, .int .i64 0, .int .i64 0, .int .i64 0] 35))
    simpa using h
  have h2 : holdsC (((w.alloc (.cells (profC nm (.slice A l.length c) m) 25)).alloc (.cells (arrN 3 v) 47)).alloc (.cells #[.int .i64 0, .int .i64 0, .int .i64 0, .int .i64 0] 35)) (w.heap.size + 1 + 1) 35 #[.int .i64 0, .int .i64 0, .int .i64 0, .int .i64 0] := by
    have h : holdsC (((w.alloc (.cells (profC nm (.slice A l.length c) m) 25)).alloc (.cells (arrN 3 v) 47)).alloc (.cells #[.int .i64 0, .int .i64 0, .int .i64 0, .int .i64 0] 35)) ((w.alloc (.cells (profC nm (.slice A l.length c) m) 25)).alloc (.cells (arrN 3 v) 47)).heap.size 35 #[.int .i64 0, .int .i64 0, .int .i64 0, .int .i64 0] := heap_alloc_new _ _
    have h := h
    simpa using h
  have hb : Below w.heap.size w (((w.alloc (.cells (profC nm (.slice A l.length c) m) 25)).alloc (.cells (arrN 3 v) 47)).alloc (.cells #[.int .i64 0, .int .i64 0, .int .i64 0, .int .i64 0] 35)) := ((((Below.refl _ _).alloc (Nat.le_refl _) _).alloc (by simp) _).alloc (by simp; omega) _)
  generalize (((w.alloc (.cells (profC nm (.slice A l.length c) m) 25)).alloc (.cells (arrN 3 v) 47)).alloc (.cells #[.int .i64 0, .int .i64 0, .int .i64 0, .int .i64 0] 35)) = wc at *
  generalize hB : w.heap.size = B at *
  have HB := Lib.hid hB
  clear hB
  go_wp2_with (refine wpList_load_row rfl 25 (.tmp 3) rfl B rfl 25 (profC nm (.slice A l.length c) m) (0, 0) _ h0 Try.underlying25 rfl (profC_info _ _ _) ?_)
  refine (HCK.out _ hb).mono ?_; rintro e w1 ⟨rfl, b1⟩
  have g0_ := h0.kept b1 h0.lt
  have g1_ := h1.kept b1 h1.lt
  have g2_ := h2.kept b1 h2.lt
  have gb_ := hb.trans (b1.mono (Nat.le_trans (Nat.le_of_eq HB.out.symm) hb.size))
  clear h0 h1 h2 hb b1
  by_cases hpc : pc = 0
  · have hne : (pc == 0) = true := by simpa using hpc
    subst hpc
    have HP1 : Hid (encP nm l m v a = encE (invK l) (invV m) v a) := by show _ = _; rw [HP.out, if_pos rfl]
    go_upto_region 4 with fail
    have k0 := g0_
    have k1 := g1_
    have k2 := g2_
    have HK := Lib.hid gb_
    clear g0_ g1_ g2_ gb_
    refine start_ (n := 7) (S := fun w' => holdsC w' B 25 (profC nm (.slice A l.length c) m) ∧ holdsC w' (B + 1) 47 (arrN 3 v) ∧ holdsC w' (B + 1 + 1) 35 #[.int .i64 0, .int .i64 0, .int .i64 0, .int .i64 0]) (ds := [5]) #[false, false, false, false, false, false, false] (by kernel_rfl) rfl rfl ⟨k0, k1, k2⟩ (fun hHeld => ?_)
    have HK := Lib.hid HK.out.drew
    refine take_ (i := 0) (N := some 15) (v := .agg (profC nm (.slice A l.length c) m)) (a' := ?_) #[true, false, false, false, false, false, false] rfl rfl (by kernel_rfl) (fun _ _ _ h => h) (Or.inl ⟨by rfl, fun w' s => exec_loadC rfl rfl s.1 rfl Try.underlying25 (profC_info _ _ _)⟩) hHeld ?_ ?_
    rotate_left
    · simp only [Act.put, List.setIfInBounds_toArray, List.set_cons_zero, List.set_cons_succ]
      rfl
    refine take_ (i := 2) (N := some 17) (v := .agg (arrN 3 v)) (a' := ?_) #[true, false, true, false, false, false, false] rfl rfl (by kernel_rfl) (fun _ _ _ h => h) (Or.inl ⟨by rfl, fun w' s => exec_loadC rfl rfl s.2.1 rfl Try.underlying47 (by rw [arrN_size]; kernel_rfl)⟩) hHeld ?_ ?_
    rotate_left
    · simp only [Act.put, List.setIfInBounds_toArray, List.set_cons_zero, List.set_cons_succ]
      rfl
    refine pure_ (i := 3) (N := some 18) (v := ?_) (a' := ?_) #[true, false, true, true, false, false, false] rfl rfl (by kernel_rfl) (fun _ _ _ h => h) (Or.inl ⟨by rfl, ?_⟩) ?_ ?_
    rotate_left
    · intro w'
      go_simp
      with_reducible rfl
    rotate_left
    · simp only [Act.put, List.setIfInBounds_toArray, List.set_cons_zero, List.set_cons_succ]
      rfl
    refine one_ (i := 1) (N := some 16) #[true, true, true, true, false, false, false] rfl rfl (by kernel_rfl) (by decide) (fun K hK => ?_)
    refine goes_ Try.func35 (by kernel_rfl) rfl #[.agg (profC nm (.slice A l.length c) m)] (by rfl) rfl rfl (by simp only [List.map_toArray, List.map_cons, List.map_nil]; rfl) ?_
    refine (HN.out _ HK.out).mono ?_
    rintro e W1 ⟨A2, c2, rfl, hR, b1⟩
    refine ⟨_, rfl, ?_⟩
    have hC := (R_C hR).2
    have hc2 := (R_C hR).1
    have q0 := hHeld.1.kept b1 hHeld.1.lt
    have q1 := hHeld.2.1.kept b1 hHeld.2.1.lt
    have q2 := hHeld.2.2.kept b1 hHeld.2.2.lt
    have HK := Lib.hid (HK.out.trans (b1.mono (Nat.le_trans (Nat.le_of_eq HB.out.symm) HK.out.size)))
    refine hK.out _ _ ⟨q0, q1, q2⟩ (fun hHeld => ?_)
    clear hK K b1
    refine norm_ (a' := ?_) ?_ ?_
    rotate_left
    · show Act.put _ (some 16) _ = _
      simp only [Act.put, List.setIfInBounds_toArray, List.set_cons_zero, List.set_cons_succ]
      rfl
    refine one_ (i := 4) (N := some 19) #[true, true, true, true, true, false, false] rfl rfl (by kernel_rfl) (by decide) (fun K hK => ?_)
    refine goes_ Try.func36 (by kernel_rfl) rfl #[.agg (encC (invV m) (.slice A2 (invK l).length c2)), .agg (arrN 3 v), .int .i64 a] (by rfl) rfl rfl (by simp only [List.map_toArray, List.map_cons, List.map_nil]; rfl) ?_
    refine (encode_any' A2 c2 (invK l) (invV m) v a _ hC hc2).mono ?_
    rintro e W1 ⟨rfl, b1⟩
    refine ⟨_, rfl, ?_⟩
    have q0 := hHeld.1.kept b1 hHeld.1.lt
    have q1 := hHeld.2.1.kept b1 hHeld.2.1.lt
    have q2 := hHeld.2.2.kept b1 hHeld.2.2.lt
    have HK := Lib.hid (HK.out.trans (b1.mono (Nat.le_trans (Nat.le_of_eq HB.out.symm) HK.out.size)))
    refine hK.out _ _ ⟨q0, q1, q2⟩ (fun hHeld => ?_)
    clear hK K b1
    refine norm_ (a' := ?_) ?_ ?_
    rotate_left
    · show Act.put _ (some 19) _ = _
      simp only [Act.put, List.setIfInBounds_toArray, List.set_cons_zero, List.set_cons_succ]
      rfl
    refine last_ (i := 5) (N := none) #[true, true, true, true, true, true, false] rfl rfl (by kernel_rfl) (by decide) (fun K hK => ?_)
    refine skip_ (by rfl) rfl (exec_storeC (c := pixF (encE (invK l) (invV m) v a)) rfl rfl rfl hHeld.2.2 (by kernel_rfl) rfl (by kernel_rfl)) ?_
    have e2 := holdsC_row hHeld.2.2 (pixF (encE (invK l) (invV m) v a))
    have HK := Lib.hid (below_setRow HK.out (show B ≤ B + 1 + 1 by omega) (pixF (encE (invK l) (invV m) v a)))
    refine hK.out _ _ ?_
    clear hK K
    refine pure_ (i := 6) (N := some 7) (v := ?_) (a' := ?_) #[true, true, true, true, true, true, true] rfl rfl (by kernel_rfl) (fun _ _ _ h => h) (Or.inl ⟨by rfl, ?_⟩) ?_ ?_
    rotate_left
    · intro w'
      go_simp
      with_reducible rfl
    rotate_left
    · simp only [Act.put, List.setIfInBounds_toArray, List.set_cons_zero, List.set_cons_succ]
      rfl
    refine done_ (by kernel_rfl) ?_
    go_wp2_with fail
    refine bodyPost_ret (v := .tuple #[.agg (pixF (encE (invK l) (invV m) v a)), .int .i64 0]) (results_row_tmp rfl _ _ rfl rfl e2 rfl Try.underlying35 (by kernel_rfl)) rfl ?_
    exact ⟨by rw [HP1.out], by rw [HB.out]; exact HK.out⟩
  · have hne : (pc == 0) = false := by simpa using hpc
    have HP1 : Hid (encP nm l m v a = fun _ => 0) := by show _ = _; rw [HP.out, if_neg hpc]
    go_wp2_with (first
      | (refine wpList_build_as rfl 35 _ rfl #[.int .i64 0, .int .i64 0, .int .i64 0, .int .i64 0] (by kernel_rfl) ?_)
      | (refine wpList_store_row rfl 35 (.tmp 6) (.tmp 13) rfl (B + 1 + 1) #[.int .i64 0, .int .i64 0, .int .i64 0, .int .i64 0] rfl rfl 35 _ g2_ (by kernel_rfl) rfl (by kernel_rfl) ?_))
    refine bodyPost_ret (v := .tuple #[.agg #[.int .i64 0, .int .i64 0, .int .i64 0, .int .i64 0], .int .i64 pc]) (results_row_tmp rfl _ _ rfl rfl (holdsC_row g2_ _) rfl Try.underlying35 (by kernel_rfl)) rfl ?_
    exact ⟨by rw [HP1.out]; rfl, by rw [HB.out]; exact below_setRow gb_ (by omega) _⟩
end Go.Proofs.Ytlpfepcmpccbeaa.Pf
/-
  The reference's Encode.
-/
namespace Go.Proofs.Ytlpfepcmpccbeaa.Pf
open Go.RowKit Go.Proofs.Ytlpfepcmpccbeaa.NM Go.Proofs.Ytlpfepcmpccbeaa.Cv Go.Proofs.Ytlpfepcmpccbeaa.Nm9 Go.Proofs.Ytlpfepcmpccbeaa.Mx Go.Proofs.Ytlpfepcmpccbeaa.PNum Go.Proofs.YtlpfepcmpccbeaaW.PrintWords Go.Proofs.YtlpfepcmpccbeaaW.PrintMore Go.Proofs.YtlpfepcmpccbeaaW.PrintLast
set_option linter.unusedVariables false
set_option maxRecDepth 20000 in
set_option maxHeartbeats 2000000 in
theorem rEncode_any (nm : ByteArray) (A : Option Addr) (c : Nat) (l : List Kn) (m : Nat → Int) (v : Nat → Int) (a : Int) (w : World) (hs : nm.size ≤ 140737488355232) (hr : Kd.C k72 w A l.length l) (hc : l.length ≤ c) :
    Calls Try.prog 25 #[.agg (profC nm (.slice A l.length c) m), .agg (arrN 3 v), .int .i64 a] w fun e w' => e = .returned (.tuple #[.agg (pixF (encP nm l m v a)), .int .i64 (profCheck nm l m)]) ∧ Below w.heap.size w w' := by
  have HCK : Hid (∀ w', Below w.heap.size w w' → Calls Try.prog 23 #[.agg (profC nm (.slice A l.length c) m)] w' fun e w'' => e = .returned (.int .i64 (profCheck nm l m)) ∧ Below w'.heap.size w' w'') := fun w' hb => rpcheck_any nm A c l m w' hs (Kd.C_below hr hb) hc
  have HI := Lib.hid (fun w => rinverse_any m w)
  have HC : Hid (∀ w', Below w.heap.size w w' → Calls Try.prog 56 #[.slice A l.length c] w' fun e w'' => ∃ A2 c2, e = .returned (.tuple #[.slice A2 (invK l).length c2, .int .i64 (invE l)]) ∧ Kd.R k72 72 w'' w'.heap.size (fun _ => True) (.slice A2 (invK l).length c2) (invK l) ∧ Below w'.heap.size w' w'') := fun w' hb => rcinverse_any A c l w' (Kd.C_below hr hb) hc
  have HAP := Lib.hid (fun w => rapply_any (invV m) v w)
  have HLI := Lib.hid (fun w => rlimit_any (applyM (invV m) v 0) (applyM (invV m) v 1) (applyM (invV m) v 2) a w)
  have HP : Hid (encP nm l m v a = if profCheck nm l m = 0 then encE (invK l) (invV m) v a else fun _ => 0) := rfl
  have HE : Hid (∀ i, encE (invK l) (invV m) v a i = if lim a = 0 then 0 else if i = 3 then lim a else atK (invK l) (lim (applyM (invV m) v i))) := fun i => rfl
  generalize profCheck nm l m = pc at *
  generalize applyM (invV m) v = av at *
  go_enter Try.func25, Try.ntmps25
  go_upto_region 1 with fail
  have h0 : holdsC (((w.alloc (.cells (profC nm (.slice A l.length c) m) 25)).alloc (.cells (arrN 3 v) 47)).alloc (.cells #[.int .i64 0, .int .i64 0, .int .i64 0, .int .i64 0] 35)) w.heap.size 25 (profC nm (.slice A l.length c) m) := by
    have h : holdsC (w.alloc (.cells (profC nm (.slice A l.length c) m) 25)) w.heap.size 25 (profC nm (.slice A l.length c) m) := heap_alloc_new _ _
    have h := ((h.alloc (.cells (arrN 3 v) 47)).alloc (.cells #[.int .i64 0, .int .i64 0, .int .i64 0, .int .i64 0] 35))
    exact h
  have h1 : holdsC (((w.alloc (.cells (profC nm (.slice A l.length c) m) 25)).alloc (.cells (arrN 3 v) 47)).alloc (.cells #[.int .i64 0, .int .i64 0, .int .i64 0, .int .i64 0] 35)) (w.heap.size + 1) 47 (arrN 3 v) := by
    have h : holdsC ((w.alloc (.cells (profC nm (.slice A l.length c) m) 25)).alloc (.cells (arrN 3 v) 47)) (w.alloc (.cells (profC nm (.slice A l.length c) m) 25)).heap.size 47 (arrN 3 v) := heap_alloc_new _ _
    have h := (h.alloc (.cells #[.int .i64 0, .int .i64 0, .int .i64 0, .int .i64 0] 35))
    simpa using h
  have h2 : holdsC (((w.alloc (.cells (profC nm (.slice A l.length c) m) 25)).alloc (.cells (arrN 3 v) 47)).alloc (.cells #[.int .i64 0, .int .i64 0, .int .i64 0, .int .i64 0] 35)) (w.heap.size + 1 + 1) 35 #[.int .i64 0, .int .i64 0, .int .i64 0, .int .i64 0] := by
    have h : holdsC (((w.alloc (.cells (profC nm (.slice A l.length c) m) 25)).alloc (.cells (arrN 3 v) 47)).alloc (.cells #[.int .i64 0, .int .i64 0, .int .i64 0, .int .i64 0] 35)) ((w.alloc (.cells (profC nm (.slice A l.length c) m) 25)).alloc (.cells (arrN 3 v) 47)).heap.size 35 #[.int .i64 0, .int .i64 0, .int .i64 0, .int .i64 0] := heap_alloc_new _ _
    have h := h
    simpa using h
  have hb : Below w.heap.size w (((w.alloc (.cells (profC nm (.slice A l.length c) m) 25)).alloc (.cells (arrN 3 v) 47)).alloc (.cells #[.int .i64 0, .int .i64 0, .int .i64 0, .int .i64 0] 35)) := ((((Below.refl _ _).alloc (Nat.le_refl _) _).alloc (by simp) _).alloc (by simp; omega) _)
  generalize (((w.alloc (.cells (profC nm (.slice A l.length c) m) 25)).alloc (.cells (arrN 3 v) 47)).alloc (.cells #[.int .i64 0, .int .i64 0, .int .i64 0, .int .i64 0] 35)) = wc at *
  generalize hB : w.heap.size = B at *
  have HB := Lib.hid hB
  clear hB
  go_wp2_with (refine wpList_load_row rfl 25 (.tmp 3) rfl B rfl 25 (profC nm (.slice A l.length c) m) (0, 0) _ h0 Try.underlying25 rfl (profC_info _ _ _) ?_)
  refine (HCK.out _ hb).mono ?_; rintro e w1 ⟨rfl, b1⟩
  have g0_ := h0.kept b1 h0.lt
  have g1_ := h1.kept b1 h1.lt
  have g2_ := h2.kept b1 h2.lt
  have gb_ := hb.trans (b1.mono (Nat.le_trans (Nat.le_of_eq HB.out.symm) hb.size))
  clear h0 h1 h2 hb b1
  by_cases hpc : pc = 0
  · have hne : (pc == 0) = true := by simpa using hpc
    subst hpc
    have HP1 : Hid (encP nm l m v a = encE (invK l) (invV m) v a) := by show _ = _; rw [HP.out, if_pos rfl]
    go_wp2_with (refine wpList_load_M rfl (.tmp 22) rfl rfl g0_ ?_)
    refine (HI.out _).mono ?_; rintro e w2 ⟨rfl, b1⟩
    have k0_ := g0_.kept b1 g0_.lt
    have k1_ := g1_.kept b1 g1_.lt
    have k2_ := g2_.kept b1 g2_.lt
    have kb_ := gb_.trans (b1.mono (Nat.le_trans (Nat.le_of_eq HB.out.symm) gb_.size))
    clear g0_ g1_ g2_ gb_ b1
    have H3 : holdsC (w2.alloc (.cells #[.int .i64 0, .int .i64 0, .int .i64 0, .int .i64 0, .int .i64 0, .int .i64 0, .int .i64 0, .int .i64 0, .int .i64 0] 23)) w2.heap.size 23 #[.int .i64 0, .int .i64 0, .int .i64 0, .int .i64 0, .int .i64 0, .int .i64 0, .int .i64 0, .int .i64 0, .int .i64 0] := heap_alloc_new _ _
    have u0_ := (k0_.alloc (.cells #[.int .i64 0, .int .i64 0, .int .i64 0, .int .i64 0, .int .i64 0, .int .i64 0, .int .i64 0, .int .i64 0, .int .i64 0] 23)).setRowOther (g' := w2.heap.size) (by have := k0_.lt; omega) (arrN 9 (invV m))
    have nu0_ : B < w2.heap.size := k0_.lt
    have u1_ := (k1_.alloc (.cells #[.int .i64 0, .int .i64 0, .int .i64 0, .int .i64 0, .int .i64 0, .int .i64 0, .int .i64 0, .int .i64 0, .int .i64 0] 23)).setRowOther (g' := w2.heap.size) (by have := k1_.lt; omega) (arrN 9 (invV m))
    have nu1_ : (B + 1) < w2.heap.size := k1_.lt
    have u2_ := (k2_.alloc (.cells #[.int .i64 0, .int .i64 0, .int .i64 0, .int .i64 0, .int .i64 0, .int .i64 0, .int .i64 0, .int .i64 0, .int .i64 0] 23)).setRowOther (g' := w2.heap.size) (by have := k2_.lt; omega) (arrN 9 (invV m))
    have nu2_ : (B + 1 + 1) < w2.heap.size := k2_.lt
    have u3_ := holdsC_row H3 (arrN 9 (invV m))
    have nq1 : B ≤ w2.heap.size := by rw [← HB.out]; exact kb_.size
    have ub_ := below_setRow (kb_.alloc nq1 (.cells #[.int .i64 0, .int .i64 0, .int .i64 0, .int .i64 0, .int .i64 0, .int .i64 0, .int .i64 0, .int .i64 0, .int .i64 0] 23)) nq1 (arrN 9 (invV m))
    go_upto_region 5 with (first | (refine wpList_store_arr rfl 23 (.tmp 9) (.tmp 25) rfl rfl rfl H3 rfl hi9 ?_))
    clear H3 k0_ k1_ k2_ kb_
    generalize (w2.alloc (.cells #[.int .i64 0, .int .i64 0, .int .i64 0, .int .i64 0, .int .i64 0, .int .i64 0, .int .i64 0, .int .i64 0, .int .i64 0] 23)).setRow w2.heap.size (arrN 9 (invV m)) = w3 at *
    generalize w2.heap.size = q1 at *
    have c1 := holdsP.c1 (show holdsP w3 B _ nm (.slice A l.length c) m from u0_)
    go_wp2_with fail
    clear c1
    refine (HC.out _ ub_).mono ?_; rintro e w4 ⟨A2, c2, rfl, hR, b1⟩
    have v0_ := u0_.kept b1 u0_.lt
    have v1_ := u1_.kept b1 u1_.lt
    have v2_ := u2_.kept b1 u2_.lt
    have v3_ := u3_.kept b1 u3_.lt
    have vb_ := ub_.trans (b1.mono (Nat.le_trans (Nat.le_of_eq HB.out.symm) ub_.size))
    clear u0_ u1_ u2_ u3_ ub_ b1
    have HAT_0 : Hid (∀ x w', Below w4.heap.size w4 w' → Calls Try.prog 59 #[.slice A2 (invK l).length c2, .int .i64 x] w' fun e w'' => e = .returned (.int .i64 (atK (invK l) x)) ∧ Below w'.heap.size w' w'') := fun x w' hb => rat_any A2 c2 (invK l) x w' (Kd.C_below (R_C hR).2 hb) (R_C hR).1
    clear hR
    go_wp2_with (first
      | (refine wpList_load_arr rfl 23 (.tmp 9) rfl rfl (show holdsN w4 q1 23 9 (invV m) from v3_) Try.underlying23 hi9 ?_)
      | (refine wpList_load_row rfl 47 (.tmp 4) rfl (B + 1) rfl 47 (arrN 3 v) (0, 0) _ v1_ Try.underlying47 rfl (by rw [arrN_size]; kernel_rfl) ?_))
    refine (HAP.out _).mono ?_; rintro e w5 ⟨rfl, b1⟩
    have x0_ := v0_.kept b1 v0_.lt
    have x1_ := v1_.kept b1 v1_.lt
    have x2_ := v2_.kept b1 v2_.lt
    have x3_ := v3_.kept b1 v3_.lt
    have xb_ := vb_.trans (b1.mono (Nat.le_trans (Nat.le_of_eq HB.out.symm) vb_.size))
    have HAT_1 : Hid (∀ x w', Below w5.heap.size w5 w' → Calls Try.prog 59 #[.slice A2 (invK l).length c2, .int .i64 x] w' fun e w'' => e = .returned (.int .i64 (atK (invK l) x)) ∧ Below w'.heap.size w' w'') := fun x w' h => HAT_0.out x w' (b1.trans (h.mono b1.size))
    clear HAT_0
    clear v0_ v1_ v2_ v3_ vb_ b1
    have H3 : holdsC (w5.alloc (.cells #[.int .i64 0, .int .i64 0, .int .i64 0] 47)) w5.heap.size 47 #[.int .i64 0, .int .i64 0, .int .i64 0] := heap_alloc_new _ _
    have y0_ := (x0_.alloc (.cells #[.int .i64 0, .int .i64 0, .int .i64 0] 47)).setRowOther (g' := w5.heap.size) (by have := x0_.lt; omega) (arrN 3 av)
    have ny0_ : B < w5.heap.size := x0_.lt
    have y1_ := (x1_.alloc (.cells #[.int .i64 0, .int .i64 0, .int .i64 0] 47)).setRowOther (g' := w5.heap.size) (by have := x1_.lt; omega) (arrN 3 av)
    have ny1_ : (B + 1) < w5.heap.size := x1_.lt
    have y2_ := (x2_.alloc (.cells #[.int .i64 0, .int .i64 0, .int .i64 0] 47)).setRowOther (g' := w5.heap.size) (by have := x2_.lt; omega) (arrN 3 av)
    have ny2_ : (B + 1 + 1) < w5.heap.size := x2_.lt
    have y3_ := (x3_.alloc (.cells #[.int .i64 0, .int .i64 0, .int .i64 0] 47)).setRowOther (g' := w5.heap.size) (by have := x3_.lt; omega) (arrN 3 av)
    have ny3_ : q1 < w5.heap.size := x3_.lt
    have y4_ := holdsC_row H3 (arrN 3 av)
    have nq2 : B ≤ w5.heap.size := by rw [← HB.out]; exact xb_.size
    have yb_ := below_setRow (xb_.alloc nq2 (.cells #[.int .i64 0, .int .i64 0, .int .i64 0] 47)) nq2 (arrN 3 av)
    have bb := below_setRow ((Below.refl w5.heap.size w5).alloc (Nat.le_refl _) (.cells #[.int .i64 0, .int .i64 0, .int .i64 0] 47)) (Nat.le_refl _) (arrN 3 av)
    have HAT_2 : Hid (∀ x w', Below ((w5.alloc (.cells #[.int .i64 0, .int .i64 0, .int .i64 0] 47)).setRow w5.heap.size (arrN 3 av)).heap.size ((w5.alloc (.cells #[.int .i64 0, .int .i64 0, .int .i64 0] 47)).setRow w5.heap.size (arrN 3 av)) w' → Calls Try.prog 59 #[.slice A2 (invK l).length c2, .int .i64 x] w' fun e w'' => e = .returned (.int .i64 (atK (invK l) x)) ∧ Below w'.heap.size w' w'') := fun x w' h => HAT_1.out x w' (bb.trans (h.mono bb.size))
    clear HAT_1
    clear bb
    go_upto_region 7 with (first | (refine wpList_store_arr rfl 47 (.tmp 13) (.tmp 35) rfl rfl rfl H3 rfl hi3 ?_))
    clear H3 x0_ x1_ x2_ x3_ xb_
    generalize (w5.alloc (.cells #[.int .i64 0, .int .i64 0, .int .i64 0] 47)).setRow w5.heap.size (arrN 3 av) = w6 at *
    generalize w5.heap.size = q2 at *
    have p0 := y4_.cell 0 (.int .i64 (av 0)) (arrN_get 3 _ 0 (by omega))
    have p1 := y4_.cell 1 (.int .i64 (av 1)) (arrN_get 3 _ 1 (by omega))
    have p2 := y4_.cell 2 (.int .i64 (av 2)) (arrN_get 3 _ 2 (by omega))
    go_wp2_with fail
    clear p0 p1 p2
    refine (HLI.out _).mono ?_; rintro e w7 ⟨rfl, b1⟩
    have z0_ := y0_.kept b1 y0_.lt
    have z1_ := y1_.kept b1 y1_.lt
    have z2_ := y2_.kept b1 y2_.lt
    have z3_ := y3_.kept b1 y3_.lt
    have z4_ := y4_.kept b1 y4_.lt
    have zb_ := yb_.trans (b1.mono (Nat.le_trans (Nat.le_of_eq HB.out.symm) yb_.size))
    have HAT_3 : Hid (∀ x w', Below w7.heap.size w7 w' → Calls Try.prog 59 #[.slice A2 (invK l).length c2, .int .i64 x] w' fun e w'' => e = .returned (.int .i64 (atK (invK l) x)) ∧ Below w'.heap.size w' w'') := fun x w' h => HAT_2.out x w' (b1.trans (h.mono b1.size))
    clear HAT_2
    clear y0_ y1_ y2_ y3_ y4_ yb_ b1
    have H3 : holdsC (w7.alloc (.cells #[.int .i64 0, .int .i64 0, .int .i64 0, .int .i64 0] 35)) w7.heap.size 35 #[.int .i64 0, .int .i64 0, .int .i64 0, .int .i64 0] := heap_alloc_new _ _
    have p0_ := (z0_.alloc (.cells #[.int .i64 0, .int .i64 0, .int .i64 0, .int .i64 0] 35)).setRowOther (g' := w7.heap.size) (by have := z0_.lt; omega) (pixC (lim (av 0)) (lim (av 1)) (lim (av 2)) (lim a))
    have np0_ : B < w7.heap.size := z0_.lt
    have p1_ := (z1_.alloc (.cells #[.int .i64 0, .int .i64 0, .int .i64 0, .int .i64 0] 35)).setRowOther (g' := w7.heap.size) (by have := z1_.lt; omega) (pixC (lim (av 0)) (lim (av 1)) (lim (av 2)) (lim a))
    have np1_ : (B + 1) < w7.heap.size := z1_.lt
    have p2_ := (z2_.alloc (.cells #[.int .i64 0, .int .i64 0, .int .i64 0, .int .i64 0] 35)).setRowOther (g' := w7.heap.size) (by have := z2_.lt; omega) (pixC (lim (av 0)) (lim (av 1)) (lim (av 2)) (lim a))
    have np2_ : (B + 1 + 1) < w7.heap.size := z2_.lt
    have p3_ := (z3_.alloc (.cells #[.int .i64 0, .int .i64 0, .int .i64 0, .int .i64 0] 35)).setRowOther (g' := w7.heap.size) (by have := z3_.lt; omega) (pixC (lim (av 0)) (lim (av 1)) (lim (av 2)) (lim a))
    have np3_ : q1 < w7.heap.size := z3_.lt
    have p4_ := (z4_.alloc (.cells #[.int .i64 0, .int .i64 0, .int .i64 0, .int .i64 0] 35)).setRowOther (g' := w7.heap.size) (by have := z4_.lt; omega) (pixC (lim (av 0)) (lim (av 1)) (lim (av 2)) (lim a))
    have np4_ : q2 < w7.heap.size := z4_.lt
    have p5_ := holdsC_row H3 (pixC (lim (av 0)) (lim (av 1)) (lim (av 2)) (lim a))
    have nq3 : B ≤ w7.heap.size := by rw [← HB.out]; exact zb_.size
    have pb_ := below_setRow (zb_.alloc nq3 (.cells #[.int .i64 0, .int .i64 0, .int .i64 0, .int .i64 0] 35)) nq3 (pixC (lim (av 0)) (lim (av 1)) (lim (av 2)) (lim a))
    have bb := below_setRow ((Below.refl w7.heap.size w7).alloc (Nat.le_refl _) (.cells #[.int .i64 0, .int .i64 0, .int .i64 0, .int .i64 0] 35)) (Nat.le_refl _) (pixC (lim (av 0)) (lim (av 1)) (lim (av 2)) (lim a))
    have HAT_4 : Hid (∀ x w', Below ((w7.alloc (.cells #[.int .i64 0, .int .i64 0, .int .i64 0, .int .i64 0] 35)).setRow w7.heap.size (pixC (lim (av 0)) (lim (av 1)) (lim (av 2)) (lim a))).heap.size ((w7.alloc (.cells #[.int .i64 0, .int .i64 0, .int .i64 0, .int .i64 0] 35)).setRow w7.heap.size (pixC (lim (av 0)) (lim (av 1)) (lim (av 2)) (lim a))) w' → Calls Try.prog 59 #[.slice A2 (invK l).length c2, .int .i64 x] w' fun e w'' => e = .returned (.int .i64 (atK (invK l) x)) ∧ Below w'.heap.size w' w'') := fun x w' h => HAT_3.out x w' (bb.trans (h.mono bb.size))
    clear HAT_3
    clear bb
    go_upto_region 8 with (first | (refine wpList_store_row rfl 35 (.tmp 14) (.tmp 44) rfl _ (pixC (lim (av 0)) (lim (av 1)) (lim (av 2)) (lim a)) rfl rfl 35 _ H3 (by kernel_rfl) rfl (by kernel_rfl) ?_))
    clear H3 z0_ z1_ z2_ z3_ z4_ zb_
    generalize (w7.alloc (.cells #[.int .i64 0, .int .i64 0, .int .i64 0, .int .i64 0] 35)).setRow w7.heap.size (pixC (lim (av 0)) (lim (av 1)) (lim (av 2)) (lim a)) = w8 at *
    generalize w7.heap.size = q3 at *
    have p3 := p5_.cell 3 (.int .i64 (lim a)) rfl
    by_cases hz : lim a = 0
    · have hz' : (lim a == 0) = true := by simpa using hz
      have HE0 : Hid (∀ i, encE (invK l) (invV m) v a i = 0) := fun i => by rw [HE.out, if_pos hz]
      rw [hz] at p3
      go_wp2_with (first
        | (refine wpList_build_as rfl 35 _ rfl #[.int .i64 0, .int .i64 0, .int .i64 0, .int .i64 0] (by kernel_rfl) ?_)
        | (refine wpList_store_row rfl 35 (.tmp 6) (.tmp 48) rfl (B + 1 + 1) #[.int .i64 0, .int .i64 0, .int .i64 0, .int .i64 0] rfl rfl 35 _ p2_ (by kernel_rfl) rfl (by kernel_rfl) ?_))
      refine bodyPost_ret (v := .tuple #[.agg #[.int .i64 0, .int .i64 0, .int .i64 0, .int .i64 0], .int .i64 0]) (results_row_tmp rfl _ _ rfl rfl (holdsC_row p2_ _) rfl Try.underlying35 (by kernel_rfl)) rfl ?_
      exact ⟨by rw [HP1.out]; unfold pixF; rw [HE0.out, HE0.out, HE0.out, HE0.out]; rfl, by rw [HB.out]; exact below_setRow pb_ (by omega) _⟩
    · have hz' : (lim a == 0) = false := by simpa using hz
      have HE0 : Hid (∀ i, encE (invK l) (invV m) v a i = if i = 3 then lim a else atK (invK l) (lim (av i))) := fun i => by rw [HE.out, if_neg hz]
      go_upto_region 10 with fail
      clear p3
      have k2 := p2_
      have k5 := p5_
      have HK := Lib.hid pb_
      clear p0_ p1_ p2_ p3_ p4_ p5_ pb_
      refine start_ (n := 17) (S := fun w' => holdsC w' (B + 1 + 1) 35 #[.int .i64 0, .int .i64 0, .int .i64 0, .int .i64 0] ∧ holdsC w' q3 35 (pixC (lim (av 0)) (lim (av 1)) (lim (av 2)) (lim a))) (ds := [15]) #[false, false, false, false, false, false, false, false, false, false, false, false, false, false, false, false, false] (by kernel_rfl) rfl rfl ⟨k2, k5⟩ (fun hHeld => ?_)
      have HK := Lib.hid HK.out.drew
      have HAT_5 : Hid (∀ x w', Below w8.drew.heap.size w8.drew w' → Calls Try.prog 59 #[.slice A2 (invK l).length c2, .int .i64 x] w' fun e w'' => e = .returned (.int .i64 (atK (invK l) x)) ∧ Below w'.heap.size w' w'') := fun x w' h => HAT_4.out x w' ((Below.refl _ _).drew.trans h)
      clear HAT_4
      refine pure_ (i := 0) (N := some 49) (v := ?_) (a' := ?_) #[true, false, false, false, false, false, false, false, false, false, false, false, false, false, false, false, false] rfl rfl (by kernel_rfl) (fun _ _ _ h => h) (Or.inl ⟨by rfl, ?_⟩) ?_ ?_
      rotate_left
      · intro w'
        go_simp
        with_reducible rfl
      rotate_left
      · simp only [Act.put, List.setIfInBounds_toArray, List.set_cons_zero, List.set_cons_succ]
        rfl
      refine pure_ (i := 1) (N := some 50) (v := ?_) (a' := ?_) #[true, true, false, false, false, false, false, false, false, false, false, false, false, false, false, false, false] rfl rfl (by kernel_rfl) (fun _ _ _ h => h) (Or.inl ⟨by rfl, ?_⟩) ?_ ?_
      rotate_left
      · intro w'
        go_simp
        with_reducible rfl
      rotate_left
      · simp only [Act.put, List.setIfInBounds_toArray, List.set_cons_zero, List.set_cons_succ]
        rfl
      refine take_ (i := 2) (N := some 51) (v := ?_) (a' := ?_) #[true, true, true, false, false, false, false, false, false, false, false, false, false, false, false, false, false] rfl rfl (by kernel_rfl) (fun _ _ _ h => h) (Or.inl ⟨by rfl, ?_⟩) hHeld ?_ ?_
      rotate_left
      · rintro w' ⟨s1, s2⟩
        have c1 := s2.cell 0 (.int .i64 (lim (av 0))) rfl
        go_simp
        with_reducible rfl
      rotate_left
      · simp only [Act.put, List.setIfInBounds_toArray, List.set_cons_zero, List.set_cons_succ]
        rfl
      refine pure_ (i := 4) (N := some 53) (v := ?_) (a' := ?_) #[true, true, true, false, true, false, false, false, false, false, false, false, false, false, false, false, false] rfl rfl (by kernel_rfl) (fun _ _ _ h => h) (Or.inl ⟨by rfl, ?_⟩) ?_ ?_
      rotate_left
      · intro w'
        go_simp
        with_reducible rfl
      rotate_left
      · simp only [Act.put, List.setIfInBounds_toArray, List.set_cons_zero, List.set_cons_succ]
        rfl
      refine pure_ (i := 5) (N := some 54) (v := ?_) (a' := ?_) #[true, true, true, false, true, true, false, false, false, false, false, false, false, false, false, false, false] rfl rfl (by kernel_rfl) (fun _ _ _ h => h) (Or.inl ⟨by rfl, ?_⟩) ?_ ?_
      rotate_left
      · intro w'
        go_simp
        with_reducible rfl
      rotate_left
      · simp only [Act.put, List.setIfInBounds_toArray, List.set_cons_zero, List.set_cons_succ]
        rfl
      refine take_ (i := 6) (N := some 55) (v := ?_) (a' := ?_) #[true, true, true, false, true, true, true, false, false, false, false, false, false, false, false, false, false] rfl rfl (by kernel_rfl) (fun _ _ _ h => h) (Or.inl ⟨by rfl, ?_⟩) hHeld ?_ ?_
      rotate_left
      · rintro w' ⟨s1, s2⟩
        have c1 := s2.cell 1 (.int .i64 (lim (av 1))) rfl
        go_simp
        with_reducible rfl
      rotate_left
      · simp only [Act.put, List.setIfInBounds_toArray, List.set_cons_zero, List.set_cons_succ]
        rfl
      refine pure_ (i := 8) (N := some 57) (v := ?_) (a' := ?_) #[true, true, true, false, true, true, true, false, true, false, false, false, false, false, false, false, false] rfl rfl (by kernel_rfl) (fun _ _ _ h => h) (Or.inl ⟨by rfl, ?_⟩) ?_ ?_
      rotate_left
      · intro w'
        go_simp
        with_reducible rfl
      rotate_left
      · simp only [Act.put, List.setIfInBounds_toArray, List.set_cons_zero, List.set_cons_succ]
        rfl
      refine pure_ (i := 9) (N := some 58) (v := ?_) (a' := ?_) #[true, true, true, false, true, true, true, false, true, true, false, false, false, false, false, false, false] rfl rfl (by kernel_rfl) (fun _ _ _ h => h) (Or.inl ⟨by rfl, ?_⟩) ?_ ?_
      rotate_left
      · intro w'
        go_simp
        with_reducible rfl
      rotate_left
      · simp only [Act.put, List.setIfInBounds_toArray, List.set_cons_zero, List.set_cons_succ]
        rfl
      refine take_ (i := 10) (N := some 59) (v := ?_) (a' := ?_) #[true, true, true, false, true, true, true, false, true, true, true, false, false, false, false, false, false] rfl rfl (by kernel_rfl) (fun _ _ _ h => h) (Or.inl ⟨by rfl, ?_⟩) hHeld ?_ ?_
      rotate_left
      · rintro w' ⟨s1, s2⟩
        have c1 := s2.cell 2 (.int .i64 (lim (av 2))) rfl
        go_simp
        with_reducible rfl
      rotate_left
      · simp only [Act.put, List.setIfInBounds_toArray, List.set_cons_zero, List.set_cons_succ]
        rfl
      refine pure_ (i := 12) (N := some 61) (v := ?_) (a' := ?_) #[true, true, true, false, true, true, true, false, true, true, true, false, true, false, false, false, false] rfl rfl (by kernel_rfl) (fun _ _ _ h => h) (Or.inl ⟨by rfl, ?_⟩) ?_ ?_
      rotate_left
      · intro w'
        go_simp
        with_reducible rfl
      rotate_left
      · simp only [Act.put, List.setIfInBounds_toArray, List.set_cons_zero, List.set_cons_succ]
        rfl
      refine take_ (i := 13) (N := some 62) (v := ?_) (a' := ?_) #[true, true, true, false, true, true, true, false, true, true, true, false, true, true, false, false, false] rfl rfl (by kernel_rfl) (fun _ _ _ h => h) (Or.inl ⟨by rfl, ?_⟩) hHeld ?_ ?_
      rotate_left
      · rintro w' ⟨s1, s2⟩
        have c1 := s2.cell 3 (.int .i64 (lim a)) rfl
        go_simp
        with_reducible rfl
      rotate_left
      · simp only [Act.put, List.setIfInBounds_toArray, List.set_cons_zero, List.set_cons_succ]
        rfl
      refine one_ (i := 3) (N := some 52) #[true, true, true, true, true, true, true, false, true, true, true, false, true, true, false, false, false] rfl rfl (by kernel_rfl) (by decide) (fun K hK => ?_)
      refine goes_ Try.func59 (by kernel_rfl) rfl #[.slice A2 (invK l).length c2, .int .i64 (lim (av 0))] (by rfl) rfl rfl (by simp only [List.map_toArray, List.map_cons, List.map_nil]; rfl) ?_
      refine (HAT_5.out (lim (av 0)) _ (Below.refl _ _)).mono ?_
      rintro e W1 ⟨rfl, b1⟩
      refine ⟨_, rfl, ?_⟩
      have HK := Lib.hid (HK.out.trans (b1.mono (Nat.le_trans (Nat.le_of_eq HB.out.symm) HK.out.size)))
      have q2_ := hHeld.1.kept b1 hHeld.1.lt
      have q5_ := hHeld.2.kept b1 hHeld.2.lt
      have HAT_6 : Hid (∀ x w', Below W1.heap.size W1 w' → Calls Try.prog 59 #[.slice A2 (invK l).length c2, .int .i64 x] w' fun e w'' => e = .returned (.int .i64 (atK (invK l) x)) ∧ Below w'.heap.size w' w'') := fun x w' h => HAT_5.out x w' (b1.trans (h.mono b1.size))
      clear HAT_5
      refine hK.out _ _ ⟨q2_, q5_⟩ (fun hHeld => ?_)
      clear hK K b1
      refine norm_ (a' := ?_) ?_ ?_
      rotate_left
      · show Act.put _ (some 52) _ = _
        simp only [Act.put, List.setIfInBounds_toArray, List.set_cons_zero, List.set_cons_succ]
        rfl
      refine one_ (i := 7) (N := some 56) #[true, true, true, true, true, true, true, true, true, true, true, false, true, true, false, false, false] rfl rfl (by kernel_rfl) (by decide) (fun K hK => ?_)
      refine goes_ Try.func59 (by kernel_rfl) rfl #[.slice A2 (invK l).length c2, .int .i64 (lim (av 1))] (by rfl) rfl rfl (by simp only [List.map_toArray, List.map_cons, List.map_nil]; rfl) ?_
      refine (HAT_6.out (lim (av 1)) _ (Below.refl _ _)).mono ?_
      rintro e W1 ⟨rfl, b1⟩
      refine ⟨_, rfl, ?_⟩
      have HK := Lib.hid (HK.out.trans (b1.mono (Nat.le_trans (Nat.le_of_eq HB.out.symm) HK.out.size)))
      have q2_ := hHeld.1.kept b1 hHeld.1.lt
      have q5_ := hHeld.2.kept b1 hHeld.2.lt
      have HAT_7 : Hid (∀ x w', Below W1.heap.size W1 w' → Calls Try.prog 59 #[.slice A2 (invK l).length c2, .int .i64 x] w' fun e w'' => e = .returned (.int .i64 (atK (invK l) x)) ∧ Below w'.heap.size w' w'') := fun x w' h => HAT_6.out x w' (b1.trans (h.mono b1.size))
      clear HAT_6
      refine hK.out _ _ ⟨q2_, q5_⟩ (fun hHeld => ?_)
      clear hK K b1
      refine norm_ (a' := ?_) ?_ ?_
      rotate_left
      · show Act.put _ (some 56) _ = _
        simp only [Act.put, List.setIfInBounds_toArray, List.set_cons_zero, List.set_cons_succ]
        rfl
      refine one_ (i := 11) (N := some 60) #[true, true, true, true, true, true, true, true, true, true, true, true, true, true, false, false, false] rfl rfl (by kernel_rfl) (by decide) (fun K hK => ?_)
      refine goes_ Try.func59 (by kernel_rfl) rfl #[.slice A2 (invK l).length c2, .int .i64 (lim (av 2))] (by rfl) rfl rfl (by simp only [List.map_toArray, List.map_cons, List.map_nil]; rfl) ?_
      refine (HAT_7.out (lim (av 2)) _ (Below.refl _ _)).mono ?_
      rintro e W1 ⟨rfl, b1⟩
      refine ⟨_, rfl, ?_⟩
      have HK := Lib.hid (HK.out.trans (b1.mono (Nat.le_trans (Nat.le_of_eq HB.out.symm) HK.out.size)))
      have q2_ := hHeld.1.kept b1 hHeld.1.lt
      have q5_ := hHeld.2.kept b1 hHeld.2.lt
      have HAT_8 : Hid (∀ x w', Below W1.heap.size W1 w' → Calls Try.prog 59 #[.slice A2 (invK l).length c2, .int .i64 x] w' fun e w'' => e = .returned (.int .i64 (atK (invK l) x)) ∧ Below w'.heap.size w' w'') := fun x w' h => HAT_7.out x w' (b1.trans (h.mono b1.size))
      clear HAT_7
      refine hK.out _ _ ⟨q2_, q5_⟩ (fun hHeld => ?_)
      clear hK K b1
      refine norm_ (a' := ?_) ?_ ?_
      rotate_left
      · show Act.put _ (some 60) _ = _
        simp only [Act.put, List.setIfInBounds_toArray, List.set_cons_zero, List.set_cons_succ]
        rfl
      refine pure_ (i := 14) (N := some 63) (v := .agg (pixC (atK (invK l) (lim (av 0))) (atK (invK l) (lim (av 1))) (atK (invK l) (lim (av 2))) (lim a))) (a' := ?_) #[true, true, true, true, true, true, true, true, true, true, true, true, true, true, true, false, false] rfl rfl (by kernel_rfl) (fun _ _ _ h => h) (Or.inl ⟨by rfl, fun w' => exec_build rfl (by kernel_rfl)⟩) ?_ ?_
      rotate_left
      · simp only [Act.put, List.setIfInBounds_toArray, List.set_cons_zero, List.set_cons_succ]
        rfl
      refine last_ (i := 15) (N := none) #[true, true, true, true, true, true, true, true, true, true, true, true, true, true, true, true, false] rfl rfl (by kernel_rfl) (by decide) (fun K hK => ?_)
      refine skip_ (by rfl) rfl (exec_storeC (c := (pixC (atK (invK l) (lim (av 0))) (atK (invK l) (lim (av 1))) (atK (invK l) (lim (av 2))) (lim a))) rfl rfl rfl hHeld.1 (by kernel_rfl) rfl (by kernel_rfl)) ?_
      have e2 := holdsC_row hHeld.1 (pixC (atK (invK l) (lim (av 0))) (atK (invK l) (lim (av 1))) (atK (invK l) (lim (av 2))) (lim a))
      have HK := Lib.hid (below_setRow HK.out (show B ≤ B + 1 + 1 by omega) (pixC (atK (invK l) (lim (av 0))) (atK (invK l) (lim (av 1))) (atK (invK l) (lim (av 2))) (lim a)))
      refine hK.out _ _ ?_
      clear hK K
      refine pure_ (i := 16) (N := some 7) (v := ?_) (a' := ?_) #[true, true, true, true, true, true, true, true, true, true, true, true, true, true, true, true, true] rfl rfl (by kernel_rfl) (fun _ _ _ h => h) (Or.inl ⟨by rfl, ?_⟩) ?_ ?_
      rotate_left
      · intro w'
        go_simp
        with_reducible rfl
      rotate_left
      · simp only [Act.put, List.setIfInBounds_toArray, List.set_cons_zero, List.set_cons_succ]
        rfl
      refine done_ (by kernel_rfl) ?_
      go_wp2_with fail
      refine bodyPost_ret (v := .tuple #[.agg (pixC (atK (invK l) (lim (av 0))) (atK (invK l) (lim (av 1))) (atK (invK l) (lim (av 2))) (lim a)), .int .i64 0]) (results_row_tmp rfl _ _ rfl rfl e2 rfl Try.underlying35 (by kernel_rfl)) rfl ?_
      exact ⟨by rw [HP1.out]; unfold pixF; rw [HE0.out, HE0.out, HE0.out, HE0.out]; rfl, by rw [HB.out]; exact HK.out⟩
  · have hne : (pc == 0) = false := by simpa using hpc
    have HP1 : Hid (encP nm l m v a = fun _ => 0) := by show _ = _; rw [HP.out, if_neg hpc]
    go_wp2_with (first
      | (refine wpList_build_as rfl 35 _ rfl #[.int .i64 0, .int .i64 0, .int .i64 0, .int .i64 0] (by kernel_rfl) ?_)
      | (refine wpList_store_row rfl 35 (.tmp 6) (.tmp 19) rfl (B + 1 + 1) #[.int .i64 0, .int .i64 0, .int .i64 0, .int .i64 0] rfl rfl 35 _ g2_ (by kernel_rfl) rfl (by kernel_rfl) ?_))
    refine bodyPost_ret (v := .tuple #[.agg #[.int .i64 0, .int .i64 0, .int .i64 0, .int .i64 0], .int .i64 pc]) (results_row_tmp rfl _ _ rfl rfl (holdsC_row g2_ _) rfl Try.underlying35 (by kernel_rfl)) rfl ?_
    exact ⟨by rw [HP1.out]; rfl, by rw [HB.out]; exact below_setRow gb_ (by omega) _⟩
end Go.Proofs.Ytlpfepcmpccbeaa.Pf
/-
  The reference's Same.
-/
namespace Go.Proofs.Ytlpfepcmpccbeaa.Pf
open Go.RowKit Go.Proofs.Ytlpfepcmpccbeaa.NM Go.Proofs.Ytlpfepcmpccbeaa.Cv Go.Proofs.Ytlpfepcmpccbeaa.Nm9 Go.Proofs.Ytlpfepcmpccbeaa.Mx Go.Proofs.Ytlpfepcmpccbeaa.PNum Go.Proofs.YtlpfepcmpccbeaaW.PrintWords Go.Proofs.YtlpfepcmpccbeaaW.PrintMore Go.Proofs.YtlpfepcmpccbeaaW.PrintLast
attribute [local go_sem] eq9 eq3
attribute [local go_sem high] eqA72
set_option linter.unusedVariables false
theorem eqd_step (l l' : List Kn) (n i : Nat) (h : i < n) : eqd l l' (n - i) i = if kx l i = kx l' i ∧ ky l i = ky l' i then eqd l l' (n - (i + 1)) (i + 1) else false := by
  obtain ⟨k, hk⟩ : ∃ k, n - i = k + 1 := ⟨n - i - 1, by omega⟩
  rw [hk, show n - (i + 1) = k by omega]
  rfl
set_option maxRecDepth 20000 in
set_option maxHeartbeats 2000000 in
theorem rsame_any (nm : ByteArray) (A : Option Addr) (c : Nat) (l : List Kn) (m : Nat → Int) (nm' : ByteArray) (A' : Option Addr) (c' : Nat) (l' : List Kn) (m' : Nat → Int) (w : World) (hl : l.length ≤ 140737488355232) (hr : Kd.C k72 w A l.length l) (hr' : Kd.C k72 w A' l'.length l') :
    Calls Try.prog 21 #[.agg (profC nm (.slice A l.length c) m), .agg (profC nm' (.slice A' l'.length c') m')] w fun e w' => e = .returned (.bool (profSame nm l m nm' l' m')) ∧ Below w.heap.size w w' := by
  have HP : Hid (profSame nm l m nm' l' m' = if (nm.toList == nm'.toList) = true then (if eqN 9 m m' = true then sameK l l' else false) else false) := rfl
  have HR : Hid (∀ w', Below w.heap.size w w' → Kd.C k72 w' A l.length l ∧ Kd.C k72 w' A' l'.length l') := fun w' hb => ⟨Kd.C_below hr hb, Kd.C_below hr' hb⟩
  go_enter Try.func21, Try.ntmps21
  go_upto_region 1 with fail
  have h0 : holdsC ((w.alloc (.cells (profC nm (.slice A l.length c) m) 25)).alloc (.cells (profC nm' (.slice A' l'.length c') m') 25)) w.heap.size 25 (profC nm (.slice A l.length c) m) := by
    have h : holdsC (w.alloc (.cells (profC nm (.slice A l.length c) m) 25)) w.heap.size 25 (profC nm (.slice A l.length c) m) := heap_alloc_new _ _
    have h := (h.alloc (.cells (profC nm' (.slice A' l'.length c') m') 25))
    exact h
  have h1 : holdsC ((w.alloc (.cells (profC nm (.slice A l.length c) m) 25)).alloc (.cells (profC nm' (.slice A' l'.length c') m') 25)) (w.heap.size + 1) 25 (profC nm' (.slice A' l'.length c') m') := by
    have h : holdsC ((w.alloc (.cells (profC nm (.slice A l.length c) m) 25)).alloc (.cells (profC nm' (.slice A' l'.length c') m') 25)) (w.alloc (.cells (profC nm (.slice A l.length c) m) 25)).heap.size 25 (profC nm' (.slice A' l'.length c') m') := heap_alloc_new _ _
    have h := h
    simpa using h
  have hb : Below w.heap.size w ((w.alloc (.cells (profC nm (.slice A l.length c) m) 25)).alloc (.cells (profC nm' (.slice A' l'.length c') m') 25)) := (((Below.refl _ _).alloc (Nat.le_refl _) _).alloc (by simp) _)
  generalize ((w.alloc (.cells (profC nm (.slice A l.length c) m) 25)).alloc (.cells (profC nm' (.slice A' l'.length c') m') 25)) = wc at *
  generalize hB : w.heap.size = B at *
  have HB := Lib.hid hB
  clear hB
  have c0 := holdsP.c0 (show holdsP wc B _ nm (.slice A l.length c) m from h0)
  have c1 := holdsP.c0 (show holdsP wc (B + 1) _ nm' (.slice A' l'.length c') m' from h1)
  have c2 := holdsP.c1 (show holdsP wc B _ nm (.slice A l.length c) m from h0)
  have c3 := holdsP.c1 (show holdsP wc (B + 1) _ nm' (.slice A' l'.length c') m' from h1)
  generalize hE : (nm.toList == nm'.toList) = b1 at *
  generalize hE2 : eqN 9 m m' = b2 at *
  cases b1
  · have HP1 : Hid (profSame nm l m nm' l' m' = false) := by show _ = _; rw [HP.out]; simp
    go_wp2
    go_ret
    exact ⟨by rw [HP1.out]; rfl, by rw [HB.out]; exact hb⟩
  · cases b2
    · have HP1 : Hid (profSame nm l m nm' l' m' = false) := by show _ = _; rw [HP.out]; simp
      go_wp2_with (first | (refine wpList_load_Mg rfl (.tmp 12) rfl rfl h0 ?_) | (refine wpList_load_Mg rfl (.tmp 14) rfl rfl h1 ?_))
      go_ret
      exact ⟨by rw [HP1.out]; rfl, by rw [HB.out]; exact hb⟩
    · by_cases hlen : l.length = l'.length
      · have HP1 : Hid (profSame nm l m nm' l' m' = eqd l l' (l.length - 0) 0) := by show _ = _; rw [HP.out]; unfold sameK; rw [if_pos hlen]; rfl
        have e1 : ((l.length : Int) == (l'.length : Int)) = true := by simp [hlen]
        have e2 : ((l.length : Int) != (l'.length : Int)) = false := by simp [hlen]
        have HL := Lib.hid hlen
        clear hlen
        go_wp2_with (first | (refine wpList_load_Mg rfl (.tmp 12) rfl rfl h0 ?_) | (refine wpList_load_Mg rfl (.tmp 14) rfl rfl h1 ?_))
        clear e1 e2 c0 c1
        go_loopw [4, 5, 30] (fun _ _ v30 wr => ∃ i : Nat, i ≤ l.length ∧ v30 = .int .i64 i ∧ Hid (profSame nm l m nm' l' m' = eqd l l' (l.length - i) i) ∧ wr.cell? ⟨B, 1, none⟩ = some (.slice A l.length c) ∧ wr.cell? ⟨B + 1, 1, none⟩ = some (.slice A' l'.length c') ∧ Below B w wr) (fun _ _ v _ => l.length - (intOf v).toNat)
        case atStart => exact ⟨0, by omega, rfl, HP1, c2, c3, hb⟩
        case round =>
          obtain ⟨i, hi, rfl, HQ, d2, d3, db⟩ := hrel
          by_cases hil : i < l.length
          · have hw : wrap64 ((i : Int) + 1) = ((i + 1 : Nat) : Int) := by rw [w64' (x := (i : Int) + 1) (by omega) (by omega)]; rfl
            have HQ2 := Lib.hid (HQ.out.trans (eqd_step l l' l.length i hil))
            obtain ⟨ad, e5, x0, x1⟩ := at_T72 (HR.out wr db).1 (i : Int) (by omega) (by omega)
            cases e5
            obtain ⟨ad', e6, y0, y1⟩ := at_T72 (HR.out wr db).2 (i : Int) (by omega) (by have := HL.out; omega)
            cases e6
            simp only [Int.toNat_natCast] at x0 x1 y0 y1
            have p1 : (0 ≤ (i : Int)) = True := eq_true (by omega)
            have p2 : ((i : Int) < (l.length : Int)) = True := eq_true (by omega)
            have p3 : ((i : Int) < (l'.length : Int)) = True := eq_true (by have := HL.out; omega)
            by_cases hk : kx l i = kx l' i ∧ ky l i = ky l' i
            · have HQ3 : Hid (profSame nm l m nm' l' m' = eqd l l' (l.length - (i + 1)) (i + 1)) := by show _ = _; rw [HQ2.out, if_pos hk]
              have hk2 : (!(((rd_T72 l (i : Int)).f0) == ((rd_T72 l' (i : Int)).f0)) || (!(((rd_T72 l (i : Int)).f1) == ((rd_T72 l' (i : Int)).f1)))) = false := by
                simp only [rdx, rdy, hk.1, hk.2]; simp
              have hu25 := Try.underlying25
              have hu72 := Try.underlying72
              go_wp2
              go_quiet (fail)
              go_wp2
              go_roundw
              case rel => exact ⟨i + 1, by omega, by first | rw [hw] | go_num, HQ3, d2, d3, below_drewN db _⟩
              case measure => simp [intOf]; omega
            · have HQ3 : Hid (profSame nm l m nm' l' m' = false) := by show _ = _; rw [HQ2.out, if_neg hk]
              have hk2 : (!(((rd_T72 l (i : Int)).f0) == ((rd_T72 l' (i : Int)).f0)) || (!(((rd_T72 l (i : Int)).f1) == ((rd_T72 l' (i : Int)).f1)))) = true := by
                simp only [rdx, rdy]
                by_cases h1 : kx l i = kx l' i
                · have h2 : ky l i ≠ ky l' i := fun h => hk ⟨h1, h⟩
                  simp [h1, h2]
                · simp [h1]
              have hu25 := Try.underlying25
              have hu72 := Try.underlying72
              go_wp2
              go_quiet (fail)
              go_wp2
              go_ret
              exact ⟨by rw [HQ3.out]; rfl, by rw [HB.out]; exact below_drewN db _⟩
          · have hin : i = l.length := by omega
            have HQ3 : Hid (profSame nm l m nm' l' m' = true) := by show _ = _; rw [HQ.out, hin, Nat.sub_self]; rfl
            have hd : decide ((i : Int) < (l.length : Int)) = false := decide_eq_false (by omega)
            go_wp2
            go_ret
            exact ⟨by rw [HQ3.out]; rfl, by rw [HB.out]; exact db⟩
      · have HP1 : Hid (profSame nm l m nm' l' m' = false) := by show _ = _; rw [HP.out]; unfold sameK; rw [if_neg hlen]; rfl
        have e1 : ((l.length : Int) == (l'.length : Int)) = false := by simp; omega
        have e2 : ((l.length : Int) != (l'.length : Int)) = true := by simp; omega
        go_wp2_with (first | (refine wpList_load_Mg rfl (.tmp 12) rfl rfl h0 ?_) | (refine wpList_load_Mg rfl (.tmp 14) rfl rfl h1 ?_))
        go_ret
        exact ⟨by rw [HP1.out]; rfl, by rw [HB.out]; exact hb⟩
end Go.Proofs.Ytlpfepcmpccbeaa.Pf
/-
  profile.Convert.
-/
namespace Go.Proofs.Ytlpfepcmpccbeaa.Pf
open Go.RowKit Go.Proofs.Ytlpfepcmpccbeaa.NM Go.Proofs.Ytlpfepcmpccbeaa.Cv Go.Proofs.Ytlpfepcmpccbeaa.Nm9 Go.Proofs.Ytlpfepcmpccbeaa.Mx Go.Proofs.Ytlpfepcmpccbeaa.PNum Go.Proofs.YtlpfepcmpccbeaaW.PrintWords Go.Proofs.YtlpfepcmpccbeaaW.PrintMore Go.Proofs.YtlpfepcmpccbeaaW.PrintLast
set_option linter.unusedVariables false
/-- the error of two profiles -/
def bothC (nm : ByteArray) (l : List Kn) (m : Nat → Int) (nm' : ByteArray) (l' : List Kn) (m' : Nat → Int) : Int := if profCheck nm l m = 0 then profCheck nm' l' m' else profCheck nm l m
/-- a converted pixel -/
def convP (nm : ByteArray) (l : List Kn) (m : Nat → Int) (nm' : ByteArray) (l' : List Kn) (m' : Nat → Int) (r g b a : Int) : Nat → Int :=
  if bothC nm l m nm' l' m' = 0 then (if profSame nm l m nm' l' m' = true then fun i => lim (([r, g, b, a] : List Int).getD i 0) else (encE (invK l') (invV m') (linV l m r g b) a)) else fun _ => 0
set_option maxRecDepth 20000 in
set_option maxHeartbeats 2000000 in
theorem pConvert_any (nm : ByteArray) (A : Option Addr) (c : Nat) (l : List Kn) (m : Nat → Int) (nm' : ByteArray) (A' : Option Addr) (c' : Nat) (l' : List Kn) (m' : Nat → Int) (r g b a : Int) (w : World) (hs : nm.size ≤ 140737488355232) (hl : l.length ≤ 140737488355232) (hr : Kd.C k72 w A l.length l) (hc : l.length ≤ c) (hs' : nm'.size ≤ 140737488355232) (hr' : Kd.C k72 w A' l'.length l') (hc' : l'.length ≤ c') :
    Calls Try.prog 14 #[.agg (profC nm (.slice A l.length c) m), .agg (profC nm' (.slice A' l'.length c') m'), .agg (pixC r g b a)] w fun e w' => e = .returned (.tuple #[.agg (pixF (convP nm l m nm' l' m' r g b a)), .int .i64 (bothC nm l m nm' l' m')]) ∧ Below w.heap.size w w' := by
  have HBO : Hid (∀ w', Below w.heap.size w w' → Calls Try.prog 31 #[.agg (profC nm (.slice A l.length c) m), .agg (profC nm' (.slice A' l'.length c') m')] w' fun e w'' => e = .returned (.int .i64 (bothC nm l m nm' l' m')) ∧ Below w'.heap.size w' w'') := fun w' hb => both_any nm nm' A A' c c' l l' m m' w' hs hs' (Kd.C_below hr hb) hc (Kd.C_below hr' hb) hc'
  have HEQ : Hid (∀ w', Below w.heap.size w w' → Calls Try.prog 34 #[.agg (profC nm (.slice A l.length c) m), .agg (profC nm' (.slice A' l'.length c') m')] w' fun e w'' => e = .returned (.bool (profSame nm l m nm' l' m')) ∧ Below w'.heap.size w' w'') := fun w' hb => pequal_any nm nm' A A' c c' l l' m m' w' hl (Kd.C_below hr hb) hc (Kd.C_below hr' hb) hc'
  have HL : Hid (∀ w', Below w.heap.size w w' → Calls Try.prog 37 #[.agg (profC nm (.slice A l.length c) m), .agg (pixC r g b a)] w' fun e w'' => e = .returned (.agg (arrN 3 (linV l m r g b))) ∧ Below w'.heap.size w' w'') := fun w' hb => plinear_any nm A c l m r g b a w' (Kd.C_below hr hb) hc
  have HN : Hid (∀ w', Below w.heap.size w w' → Calls Try.prog 35 #[.agg (profC nm' (.slice A' l'.length c') m')] w' fun e w'' => ∃ A2 c2, e = .returned (.agg (encC (invV m') (.slice A2 (invK l').length c2))) ∧ Kd.R k72 72 w'' w'.heap.size (fun _ => True) (.slice A2 (invK l').length c2) (invK l') ∧ Below w'.heap.size w' w'') := fun w' hb => newEncoder_any nm' A' c' l' m' w' (Kd.C_below hr' hb) hc'
  have HLI := Lib.hid (fun w => limit_any r g b a w)
  have HP : Hid ((convP nm l m nm' l' m' r g b a) = if (bothC nm l m nm' l' m') = 0 then (if profSame nm l m nm' l' m' = true then fun i => lim (([r, g, b, a] : List Int).getD i 0) else (encE (invK l') (invV m') (linV l m r g b) a)) else fun _ => 0) := rfl
  generalize (bothC nm l m nm' l' m') = pc at *
  generalize profSame nm l m nm' l' m' = sm at *
  generalize (linV l m r g b) = lv at *
  go_enter Try.func14, Try.ntmps14
  go_upto_region 1 with fail
  have h0 : holdsC ((((w.alloc (.cells (profC nm (.slice A l.length c) m) 25)).alloc (.cells (profC nm' (.slice A' l'.length c') m') 25)).alloc (.cells (pixC r g b a) 35)).alloc (.cells #[.int .i64 0, .int .i64 0, .int .i64 0, .int .i64 0] 35)) w.heap.size 25 (profC nm (.slice A l.length c) m) := by
    have h : holdsC (w.alloc (.cells (profC nm (.slice A l.length c) m) 25)) w.heap.size 25 (profC nm (.slice A l.length c) m) := heap_alloc_new _ _
    have h := (((h.alloc (.cells (profC nm' (.slice A' l'.length c') m') 25)).alloc (.cells (pixC r g b a) 35)).alloc (.cells #[.int .i64 0, .int .i64 0, .int .i64 0, .int .i64 0] 35))
    exact h
  have h1 : holdsC ((((w.alloc (.cells (profC nm (.slice A l.length c) m) 25)).alloc (.cells (profC nm' (.slice A' l'.length c') m') 25)).alloc (.cells (pixC r g b a) 35)).alloc (.cells #[.int .i64 0, .int .i64 0, .int .i64 0, .int .i64 0] 35)) (w.heap.size + 1) 25 (profC nm' (.slice A' l'.length c') m') := by
    have h : holdsC ((w.alloc (.cells (profC nm (.slice A l.length c) m) 25)).alloc (.cells (profC nm' (.slice A' l'.length c') m') 25)) (w.alloc (.cells (profC nm (.slice A l.length c) m) 25)).heap.size 25 (profC nm' (.slice A' l'.length c') m') := heap_alloc_new _ _
    have h := ((h.alloc (.cells (pixC r g b a) 35)).alloc (.cells #[.int .i64 0, .int .i64 0, .int .i64 0, .int .i64 0] 35))
    simpa using h
  have h2 : holdsC ((((w.alloc (.cells (profC nm (.slice A l.length c) m) 25)).alloc (.cells (profC nm' (.slice A' l'.length c') m') 25)).alloc (.cells (pixC r g b a) 35)).alloc (.cells #[.int .i64 0, .int .i64 0, .int .i64 0, .int .i64 0] 35)) (w.heap.size + 1 + 1) 35 (pixC r g b a) := by
    have h : holdsC (((w.alloc (.cells (profC nm (.slice A l.length c) m) 25)).alloc (.cells (profC nm' (.slice A' l'.length c') m') 25)).alloc (.cells (pixC r g b a) 35)) ((w.alloc (.cells (profC nm (.slice A l.length c) m) 25)).alloc (.cells (profC nm' (.slice A' l'.length c') m') 25)).heap.size 35 (pixC r g b a) := heap_alloc_new _ _
    have h := (h.alloc (.cells #[.int .i64 0, .int .i64 0, .int .i64 0, .int .i64 0] 35))
    simpa using h
  have h3 : holdsC ((((w.alloc (.cells (profC nm (.slice A l.length c) m) 25)).alloc (.cells (profC nm' (.slice A' l'.length c') m') 25)).alloc (.cells (pixC r g b a) 35)).alloc (.cells #[.int .i64 0, .int .i64 0, .int .i64 0, .int .i64 0] 35)) (w.heap.size + 1 + 1 + 1) 35 #[.int .i64 0, .int .i64 0, .int .i64 0, .int .i64 0] := by
    have h : holdsC ((((w.alloc (.cells (profC nm (.slice A l.length c) m) 25)).alloc (.cells (profC nm' (.slice A' l'.length c') m') 25)).alloc (.cells (pixC r g b a) 35)).alloc (.cells #[.int .i64 0, .int .i64 0, .int .i64 0, .int .i64 0] 35)) (((w.alloc (.cells (profC nm (.slice A l.length c) m) 25)).alloc (.cells (profC nm' (.slice A' l'.length c') m') 25)).alloc (.cells (pixC r g b a) 35)).heap.size 35 #[.int .i64 0, .int .i64 0, .int .i64 0, .int .i64 0] := heap_alloc_new _ _
    have h := h
    simpa using h
  have hb : Below w.heap.size w ((((w.alloc (.cells (profC nm (.slice A l.length c) m) 25)).alloc (.cells (profC nm' (.slice A' l'.length c') m') 25)).alloc (.cells (pixC r g b a) 35)).alloc (.cells #[.int .i64 0, .int .i64 0, .int .i64 0, .int .i64 0] 35)) := (((((Below.refl _ _).alloc (Nat.le_refl _) _).alloc (by simp) _).alloc (by simp; omega) _).alloc (by simp; omega) _)
  generalize ((((w.alloc (.cells (profC nm (.slice A l.length c) m) 25)).alloc (.cells (profC nm' (.slice A' l'.length c') m') 25)).alloc (.cells (pixC r g b a) 35)).alloc (.cells #[.int .i64 0, .int .i64 0, .int .i64 0, .int .i64 0] 35)) = wc at *
  generalize hB : w.heap.size = B at *
  have HB := Lib.hid hB
  clear hB
  go_wp2_with (first
    | (refine wpList_load_row rfl 25 (.tmp 3) rfl B rfl 25 (profC nm (.slice A l.length c) m) (0, 0) _ h0 Try.underlying25 rfl (profC_info _ _ _) ?_)
    | (refine wpList_load_row rfl 25 (.tmp 4) rfl (B + 1) rfl 25 (profC nm' (.slice A' l'.length c') m') (0, 0) _ h1 Try.underlying25 rfl (profC_info _ _ _) ?_))
  refine (HBO.out _ hb).mono ?_; rintro e w1 ⟨rfl, b1⟩
  have g0_ := h0.kept b1 h0.lt
  have g1_ := h1.kept b1 h1.lt
  have g2_ := h2.kept b1 h2.lt
  have g3_ := h3.kept b1 h3.lt
  have gb_ := hb.trans (b1.mono (Nat.le_trans (Nat.le_of_eq HB.out.symm) hb.size))
  clear h0 h1 h2 h3 hb b1
  by_cases hpc : pc = 0
  · have hne : (pc == 0) = true := by simpa using hpc
    subst hpc
    go_wp2_with (first
      | (refine wpList_load_row rfl 25 (.tmp 3) rfl B rfl 25 (profC nm (.slice A l.length c) m) (0, 0) _ g0_ Try.underlying25 rfl (profC_info _ _ _) ?_)
      | (refine wpList_load_row rfl 25 (.tmp 4) rfl (B + 1) rfl 25 (profC nm' (.slice A' l'.length c') m') (0, 0) _ g1_ Try.underlying25 rfl (profC_info _ _ _) ?_))
    refine (HEQ.out _ gb_).mono ?_; rintro e w2 ⟨rfl, b1⟩
    have k0_ := g0_.kept b1 g0_.lt
    have k1_ := g1_.kept b1 g1_.lt
    have k2_ := g2_.kept b1 g2_.lt
    have k3_ := g3_.kept b1 g3_.lt
    have kb_ := gb_.trans (b1.mono (Nat.le_trans (Nat.le_of_eq HB.out.symm) gb_.size))
    clear g0_ g1_ g2_ g3_ gb_ b1
    cases sm
    · have HP1 : Hid ((convP nm l m nm' l' m' r g b a) = encE (invK l') (invV m') lv a) := by show _ = _; rw [HP.out]; simp
      go_upto_region 6 with fail
      have k0 := k0_
      have k1 := k1_
      have k2 := k2_
      have k3 := k3_
      have HK := Lib.hid kb_
      clear k0_ k1_ k2_ k3_ kb_
      refine start_ (n := 10) (S := fun w' => holdsC w' B 25 (profC nm (.slice A l.length c) m) ∧ holdsC w' (B + 1) 25 (profC nm' (.slice A' l'.length c') m') ∧ holdsC w' (B + 1 + 1) 35 (pixC r g b a) ∧ holdsC w' (B + 1 + 1 + 1) 35 #[.int .i64 0, .int .i64 0, .int .i64 0, .int .i64 0]) (ds := [8]) #[false, false, false, false, false, false, false, false, false, false] (by kernel_rfl) rfl rfl ⟨k0, k1, k2, k3⟩ (fun hHeld => ?_)
      have HK := Lib.hid HK.out.drew
      refine take_ (i := 0) (N := some 21) (v := .agg (profC nm' (.slice A' l'.length c') m')) (a' := ?_) #[true, false, false, false, false, false, false, false, false, false] rfl rfl (by kernel_rfl) (fun _ _ _ h => h) (Or.inl ⟨by rfl, fun w' s => exec_loadC rfl rfl s.2.1 rfl Try.underlying25 (profC_info _ _ _)⟩) hHeld ?_ ?_
      rotate_left
      · simp only [Act.put, List.setIfInBounds_toArray, List.set_cons_zero, List.set_cons_succ]
        rfl
      refine take_ (i := 2) (N := some 23) (v := .agg (profC nm (.slice A l.length c) m)) (a' := ?_) #[true, false, true, false, false, false, false, false, false, false] rfl rfl (by kernel_rfl) (fun _ _ _ h => h) (Or.inl ⟨by rfl, fun w' s => exec_loadC rfl rfl s.1 rfl Try.underlying25 (profC_info _ _ _)⟩) hHeld ?_ ?_
      rotate_left
      · simp only [Act.put, List.setIfInBounds_toArray, List.set_cons_zero, List.set_cons_succ]
        rfl
      refine take_ (i := 3) (N := some 24) (v := .agg (pixC r g b a)) (a' := ?_) #[true, false, true, true, false, false, false, false, false, false] rfl rfl (by kernel_rfl) (fun _ _ _ h => h) (Or.inl ⟨by rfl, fun w' s => exec_loadC rfl rfl s.2.2.1 rfl Try.underlying35 (by kernel_rfl)⟩) hHeld ?_ ?_
      rotate_left
      · simp only [Act.put, List.setIfInBounds_toArray, List.set_cons_zero, List.set_cons_succ]
        rfl
      refine pure_ (i := 5) (N := some 26) (v := ?_) (a' := ?_) #[true, false, true, true, false, true, false, false, false, false] rfl rfl (by kernel_rfl) (fun _ _ _ h => h) (Or.inl ⟨by rfl, ?_⟩) ?_ ?_
      rotate_left
      · intro w'
        go_simp
        with_reducible rfl
      rotate_left
      · simp only [Act.put, List.setIfInBounds_toArray, List.set_cons_zero, List.set_cons_succ]
        rfl
      refine take_ (i := 6) (N := some 27) (v := ?_) (a' := ?_) #[true, false, true, true, false, true, true, false, false, false] rfl rfl (by kernel_rfl) (fun _ _ _ h => h) (Or.inl ⟨by rfl, ?_⟩) hHeld ?_ ?_
      rotate_left
      · rintro w' ⟨s0, s1, s2, s3⟩
        have c1 := s2.cell 3 (.int .i64 a) rfl
        go_simp
        with_reducible rfl
      rotate_left
      · simp only [Act.put, List.setIfInBounds_toArray, List.set_cons_zero, List.set_cons_succ]
        rfl
      refine one_ (i := 1) (N := some 22) #[true, true, true, true, false, true, true, false, false, false] rfl rfl (by kernel_rfl) (by decide) (fun K hK => ?_)
      refine goes_ Try.func35 (by kernel_rfl) rfl #[.agg (profC nm' (.slice A' l'.length c') m')] (by rfl) rfl rfl (by simp only [List.map_toArray, List.map_cons, List.map_nil]; rfl) ?_
      refine (HN.out _ HK.out).mono ?_
      rintro e W1 ⟨A2, c2, rfl, hR, b1⟩
      refine ⟨_, rfl, ?_⟩
      have hC := (R_C hR).2
      have hc2 := (R_C hR).1
      have HEN_0 : Hid (∀  w', Below W1.heap.size W1 w' → Calls Try.prog 36 #[.agg (encC (invV m') (.slice A2 (invK l').length c2)), .agg (arrN 3 lv), .int .i64 a] w' fun e w'' => e = .returned (.agg (pixF (encE (invK l') (invV m') lv a))) ∧ Below w'.heap.size w' w'') := fun w' hb => encode_any' A2 c2 (invK l') (invV m') lv a w' (Kd.C_below hC hb) hc2
      have q0 := hHeld.1.kept b1 hHeld.1.lt
      have q1 := hHeld.2.1.kept b1 hHeld.2.1.lt
      have q2 := hHeld.2.2.1.kept b1 hHeld.2.2.1.lt
      have q3 := hHeld.2.2.2.kept b1 hHeld.2.2.2.lt
      have HK := Lib.hid (HK.out.trans (b1.mono (Nat.le_trans (Nat.le_of_eq HB.out.symm) HK.out.size)))
      refine hK.out _ _ ⟨q0, q1, q2, q3⟩ (fun hHeld => ?_)
      clear hK K b1
      refine norm_ (a' := ?_) ?_ ?_
      rotate_left
      · show Act.put _ (some 22) _ = _
        simp only [Act.put, List.setIfInBounds_toArray, List.set_cons_zero, List.set_cons_succ]
        rfl
      refine one_ (i := 4) (N := some 25) #[true, true, true, true, true, true, true, false, false, false] rfl rfl (by kernel_rfl) (by decide) (fun K hK => ?_)
      refine goes_ Try.func37 (by kernel_rfl) rfl #[.agg (profC nm (.slice A l.length c) m), .agg (pixC r g b a)] (by rfl) rfl rfl (by simp only [List.map_toArray, List.map_cons, List.map_nil]; rfl) ?_
      refine (HL.out _ HK.out).mono ?_
      rintro e W1 ⟨rfl, b1⟩
      refine ⟨_, rfl, ?_⟩
      have q0 := hHeld.1.kept b1 hHeld.1.lt
      have q1 := hHeld.2.1.kept b1 hHeld.2.1.lt
      have q2 := hHeld.2.2.1.kept b1 hHeld.2.2.1.lt
      have q3 := hHeld.2.2.2.kept b1 hHeld.2.2.2.lt
      have HK := Lib.hid (HK.out.trans (b1.mono (Nat.le_trans (Nat.le_of_eq HB.out.symm) HK.out.size)))
      have HEN_1 : Hid (∀  w', Below W1.heap.size W1 w' → Calls Try.prog 36 #[.agg (encC (invV m') (.slice A2 (invK l').length c2)), .agg (arrN 3 lv), .int .i64 a] w' fun e w'' => e = .returned (.agg (pixF (encE (invK l') (invV m') lv a))) ∧ Below w'.heap.size w' w'') := fun  w' h => HEN_0.out  w' (b1.trans (h.mono b1.size))
      clear HEN_0
      refine hK.out _ _ ⟨q0, q1, q2, q3⟩ (fun hHeld => ?_)
      clear hK K b1
      refine norm_ (a' := ?_) ?_ ?_
      rotate_left
      · show Act.put _ (some 25) _ = _
        simp only [Act.put, List.setIfInBounds_toArray, List.set_cons_zero, List.set_cons_succ]
        rfl
      refine one_ (i := 7) (N := some 28) #[true, true, true, true, true, true, true, true, false, false] rfl rfl (by kernel_rfl) (by decide) (fun K hK => ?_)
      refine goes_ Try.func36 (by kernel_rfl) rfl #[.agg (encC (invV m') (.slice A2 (invK l').length c2)), .agg (arrN 3 lv), .int .i64 a] (by rfl) rfl rfl (by simp only [List.map_toArray, List.map_cons, List.map_nil]; rfl) ?_
      refine (HEN_1.out _ (Below.refl _ _)).mono ?_
      rintro e W1 ⟨rfl, b1⟩
      refine ⟨_, rfl, ?_⟩
      have q0 := hHeld.1.kept b1 hHeld.1.lt
      have q1 := hHeld.2.1.kept b1 hHeld.2.1.lt
      have q2 := hHeld.2.2.1.kept b1 hHeld.2.2.1.lt
      have q3 := hHeld.2.2.2.kept b1 hHeld.2.2.2.lt
      have HK := Lib.hid (HK.out.trans (b1.mono (Nat.le_trans (Nat.le_of_eq HB.out.symm) HK.out.size)))
      refine hK.out _ _ ⟨q0, q1, q2, q3⟩ (fun hHeld => ?_)
      clear hK K b1
      refine norm_ (a' := ?_) ?_ ?_
      rotate_left
      · show Act.put _ (some 28) _ = _
        simp only [Act.put, List.setIfInBounds_toArray, List.set_cons_zero, List.set_cons_succ]
        rfl
      refine last_ (i := 8) (N := none) #[true, true, true, true, true, true, true, true, true, false] rfl rfl (by kernel_rfl) (by decide) (fun K hK => ?_)
      refine skip_ (by rfl) rfl (exec_storeC (c := pixF (encE (invK l') (invV m') lv a)) rfl rfl rfl hHeld.2.2.2 (by kernel_rfl) rfl (by kernel_rfl)) ?_
      have e2 := holdsC_row hHeld.2.2.2 (pixF (encE (invK l') (invV m') lv a))
      have HK := Lib.hid (below_setRow HK.out (show B ≤ B + 1 + 1 + 1 by omega) (pixF (encE (invK l') (invV m') lv a)))
      refine hK.out _ _ ?_
      clear hK K
      refine pure_ (i := 9) (N := some 7) (v := ?_) (a' := ?_) #[true, true, true, true, true, true, true, true, true, true] rfl rfl (by kernel_rfl) (fun _ _ _ h => h) (Or.inl ⟨by rfl, ?_⟩) ?_ ?_
      rotate_left
      · intro w'
        go_simp
        with_reducible rfl
      rotate_left
      · simp only [Act.put, List.setIfInBounds_toArray, List.set_cons_zero, List.set_cons_succ]
        rfl
      refine done_ (by kernel_rfl) ?_
      go_wp2_with fail
      refine bodyPost_ret (v := .tuple #[.agg (pixF (encE (invK l') (invV m') lv a)), .int .i64 0]) (results_row_tmp rfl _ _ rfl rfl e2 rfl Try.underlying35 (by kernel_rfl)) rfl ?_
      exact ⟨by rw [HP1.out], by rw [HB.out]; exact HK.out⟩
    · have HP1 : Hid ((convP nm l m nm' l' m' r g b a) = fun i => lim (([r, g, b, a] : List Int).getD i 0)) := by show _ = _; rw [HP.out]; simp
      go_wp2_with (refine wpList_load_row rfl 35 (.tmp 5) rfl (B + 1 + 1) rfl 35 (pixC r g b a) (0, 0) _ k2_ Try.underlying35 rfl (by kernel_rfl) ?_)
      refine (HLI.out _).mono ?_; rintro e w3 ⟨rfl, b1⟩
      have u0_ := k0_.kept b1 k0_.lt
      have u1_ := k1_.kept b1 k1_.lt
      have u2_ := k2_.kept b1 k2_.lt
      have u3_ := k3_.kept b1 k3_.lt
      have ub_ := kb_.trans (b1.mono (Nat.le_trans (Nat.le_of_eq HB.out.symm) kb_.size))
      clear k0_ k1_ k2_ k3_ kb_ b1
      go_wp2_with (refine wpList_store_row rfl 35 (.tmp 6) (.tmp 20) rfl (B + 1 + 1 + 1) (pixC (lim r) (lim g) (lim b) (lim a)) rfl rfl 35 _ u3_ (by kernel_rfl) rfl (by kernel_rfl) ?_)
      refine bodyPost_ret (v := .tuple #[.agg (pixC (lim r) (lim g) (lim b) (lim a)), .int .i64 0]) (results_row_tmp rfl _ _ rfl rfl (holdsC_row u3_ _) rfl Try.underlying35 (by kernel_rfl)) rfl ?_
      exact ⟨by rw [HP1.out]; rfl, by rw [HB.out]; exact below_setRow ub_ (by omega) _⟩
  · have hne : (pc == 0) = false := by simpa using hpc
    have HP1 : Hid ((convP nm l m nm' l' m' r g b a) = fun _ => 0) := by show _ = _; rw [HP.out, if_neg hpc]
    go_wp2_with (first
      | (refine wpList_build_as rfl 35 _ rfl #[.int .i64 0, .int .i64 0, .int .i64 0, .int .i64 0] (by kernel_rfl) ?_)
      | (refine wpList_store_row rfl 35 (.tmp 6) (.tmp 14) rfl (B + 1 + 1 + 1) #[.int .i64 0, .int .i64 0, .int .i64 0, .int .i64 0] rfl rfl 35 _ g3_ (by kernel_rfl) rfl (by kernel_rfl) ?_))
    refine bodyPost_ret (v := .tuple #[.agg #[.int .i64 0, .int .i64 0, .int .i64 0, .int .i64 0], .int .i64 pc]) (results_row_tmp rfl _ _ rfl rfl (holdsC_row g3_ _) rfl Try.underlying35 (by kernel_rfl)) rfl ?_
    exact ⟨by rw [HP1.out]; rfl, by rw [HB.out]; exact below_setRow gb_ (by omega) _⟩
end Go.Proofs.Ytlpfepcmpccbeaa.Pf
/-
  The reference's Convert.
-/
namespace Go.Proofs.Ytlpfepcmpccbeaa.Pf
open Go.RowKit Go.Proofs.Ytlpfepcmpccbeaa.NM Go.Proofs.Ytlpfepcmpccbeaa.Cv Go.Proofs.Ytlpfepcmpccbeaa.Nm9 Go.Proofs.Ytlpfepcmpccbeaa.Mx Go.Proofs.Ytlpfepcmpccbeaa.PNum Go.Proofs.YtlpfepcmpccbeaaW.PrintWords Go.Proofs.YtlpfepcmpccbeaaW.PrintMore Go.Proofs.YtlpfepcmpccbeaaW.PrintLast
set_option linter.unusedVariables false
set_option maxRecDepth 20000 in
set_option maxHeartbeats 2000000 in
theorem rConvert_any (nm : ByteArray) (A : Option Addr) (c : Nat) (l : List Kn) (m : Nat → Int) (nm' : ByteArray) (A' : Option Addr) (c' : Nat) (l' : List Kn) (m' : Nat → Int) (r g b a : Int) (w : World) (hs : nm.size ≤ 140737488355232) (hl : l.length ≤ 140737488355232) (hr : Kd.C k72 w A l.length l) (hc : l.length ≤ c) (hs' : nm'.size ≤ 140737488355232) (hr' : Kd.C k72 w A' l'.length l') (hc' : l'.length ≤ c') :
    Calls Try.prog 28 #[.agg (profC nm (.slice A l.length c) m), .agg (profC nm' (.slice A' l'.length c') m'), .agg (pixC r g b a)] w fun e w' => e = .returned (.tuple #[.agg (pixF (convP nm l m nm' l' m' r g b a)), .int .i64 (bothC nm l m nm' l' m')]) ∧ Below w.heap.size w w' := by
  have HK1 : Hid (∀ w', Below w.heap.size w w' → Calls Try.prog 23 #[.agg (profC nm (.slice A l.length c) m)] w' fun e w'' => e = .returned (.int .i64 (profCheck nm l m)) ∧ Below w'.heap.size w' w'') := fun w' hb => rpcheck_any nm A c l m w' hs (Kd.C_below hr hb) hc
  have HK2 : Hid (∀ w', Below w.heap.size w w' → Calls Try.prog 23 #[.agg (profC nm' (.slice A' l'.length c') m')] w' fun e w'' => e = .returned (.int .i64 (profCheck nm' l' m')) ∧ Below w'.heap.size w' w'') := fun w' hb => rpcheck_any nm' A' c' l' m' w' hs' (Kd.C_below hr' hb) hc'
  have HEQ : Hid (∀ w', Below w.heap.size w w' → Calls Try.prog 21 #[.agg (profC nm (.slice A l.length c) m), .agg (profC nm' (.slice A' l'.length c') m')] w' fun e w'' => e = .returned (.bool (profSame nm l m nm' l' m')) ∧ Below w'.heap.size w' w'') := fun w' hb => rsame_any nm A c l m nm' A' c' l' m' w' hl (Kd.C_below hr hb) (Kd.C_below hr' hb)
  have HL : Hid (∀ w', Below w.heap.size w w' → Calls Try.prog 27 #[.agg (profC nm (.slice A l.length c) m), .agg (pixC r g b a)] w' fun e w'' => e = .returned (.agg (arrN 3 (linP nm l m r g b))) ∧ Below w'.heap.size w' w'') := fun w' hb => rLinear_any nm A c l m r g b a w' hs (Kd.C_below hr hb) hc
  have HEN : Hid (∀ w', Below w.heap.size w w' → Calls Try.prog 25 #[.agg (profC nm' (.slice A' l'.length c') m'), .agg (arrN 3 (linP nm l m r g b)), .int .i64 a] w' fun e w'' => e = .returned (.tuple #[.agg (pixF (encP nm' l' m' (linP nm l m r g b) a)), .int .i64 (profCheck nm' l' m')]) ∧ Below w'.heap.size w' w'') := fun w' hb => rEncode_any nm' A' c' l' m' (linP nm l m r g b) a w' hs' (Kd.C_below hr' hb) hc'
  have HLI := Lib.hid (fun w => rlimit_any r g b a w)
  have HP0 : Hid (profCheck nm l m ≠ 0 → (convP nm l m nm' l' m' r g b a) = (fun _ => 0) ∧ (bothC nm l m nm' l' m') = profCheck nm l m) := fun h => by unfold convP bothC; rw [if_neg h]; exact ⟨if_neg h, rfl⟩
  have HP1 : Hid (profCheck nm l m = 0 → profCheck nm' l' m' ≠ 0 → (convP nm l m nm' l' m' r g b a) = (fun _ => 0) ∧ (bothC nm l m nm' l' m') = profCheck nm' l' m') := fun h h' => by unfold convP bothC; rw [if_pos h]; exact ⟨if_neg h', rfl⟩
  have HP2 : Hid (profCheck nm l m = 0 → profCheck nm' l' m' = 0 → profSame nm l m nm' l' m' = true → (convP nm l m nm' l' m' r g b a) = (fun i => lim (([r, g, b, a] : List Int).getD i 0)) ∧ (bothC nm l m nm' l' m') = 0) := fun h h' h2 => by unfold convP bothC; rw [if_pos h, if_pos h', if_pos h2]; exact ⟨rfl, h'⟩
  have HP3 : Hid (profCheck nm l m = 0 → profCheck nm' l' m' = 0 → profSame nm l m nm' l' m' = false → (convP nm l m nm' l' m' r g b a) = (encP nm' l' m' (linP nm l m r g b) a) ∧ (bothC nm l m nm' l' m') = 0) := fun h h' h2 => by unfold convP bothC encP linP; rw [if_pos h, if_pos h', if_pos h', if_pos h, if_neg (by rw [h2]; simp)]; exact ⟨rfl, h'⟩
  generalize profCheck nm l m = pc at *
  generalize profCheck nm' l' m' = qc at *
  generalize profSame nm l m nm' l' m' = sm at *
  generalize hEP : (encP nm' l' m' (linP nm l m r g b) a) = ep at *
  clear hEP
  generalize linP nm l m r g b = lp at *
  go_enter Try.func28, Try.ntmps28
  go_upto_region 1 with fail
  have h0 : holdsC ((((w.alloc (.cells (profC nm (.slice A l.length c) m) 25)).alloc (.cells (profC nm' (.slice A' l'.length c') m') 25)).alloc (.cells (pixC r g b a) 35)).alloc (.cells #[.int .i64 0, .int .i64 0, .int .i64 0, .int .i64 0] 35)) w.heap.size 25 (profC nm (.slice A l.length c) m) := by
    have h : holdsC (w.alloc (.cells (profC nm (.slice A l.length c) m) 25)) w.heap.size 25 (profC nm (.slice A l.length c) m) := heap_alloc_new _ _
    have h := (((h.alloc (.cells (profC nm' (.slice A' l'.length c') m') 25)).alloc (.cells (pixC r g b a) 35)).alloc (.cells #[.int .i64 0, .int .i64 0, .int .i64 0, .int .i64 0] 35))
    exact h
  have h1 : holdsC ((((w.alloc (.cells (profC nm (.slice A l.length c) m) 25)).alloc (.cells (profC nm' (.slice A' l'.length c') m') 25)).alloc (.cells (pixC r g b a) 35)).alloc (.cells #[.int .i64 0, .int .i64 0, .int .i64 0, .int .i64 0] 35)) (w.heap.size + 1) 25 (profC nm' (.slice A' l'.length c') m') := by
    have h : holdsC ((w.alloc (.cells (profC nm (.slice A l.length c) m) 25)).alloc (.cells (profC nm' (.slice A' l'.length c') m') 25)) (w.alloc (.cells (profC nm (.slice A l.length c) m) 25)).heap.size 25 (profC nm' (.slice A' l'.length c') m') := heap_alloc_new _ _
    have h := ((h.alloc (.cells (pixC r g b a) 35)).alloc (.cells #[.int .i64 0, .int .i64 0, .int .i64 0, .int .i64 0] 35))
    simpa using h
  have h2 : holdsC ((((w.alloc (.cells (profC nm (.slice A l.length c) m) 25)).alloc (.cells (profC nm' (.slice A' l'.length c') m') 25)).alloc (.cells (pixC r g b a) 35)).alloc (.cells #[.int .i64 0, .int .i64 0, .int .i64 0, .int .i64 0] 35)) (w.heap.size + 1 + 1) 35 (pixC r g b a) := by
    have h : holdsC (((w.alloc (.cells (profC nm (.slice A l.length c) m) 25)).alloc (.cells (profC nm' (.slice A' l'.length c') m') 25)).alloc (.cells (pixC r g b a) 35)) ((w.alloc (.cells (profC nm (.slice A l.length c) m) 25)).alloc (.cells (profC nm' (.slice A' l'.length c') m') 25)).heap.size 35 (pixC r g b a) := heap_alloc_new _ _
    have h := (h.alloc (.cells #[.int .i64 0, .int .i64 0, .int .i64 0, .int .i64 0] 35))
    simpa using h
  have h3 : holdsC ((((w.alloc (.cells (profC nm (.slice A l.length c) m) 25)).alloc (.cells (profC nm' (.slice A' l'.length c') m') 25)).alloc (.cells (pixC r g b a) 35)).alloc (.cells #[.int .i64 0, .int .i64 0, .int .i64 0, .int .i64 0] 35)) (w.heap.size + 1 + 1 + 1) 35 #[.int .i64 0, .int .i64 0, .int .i64 0, .int .i64 0] := by
    have h : holdsC ((((w.alloc (.cells (profC nm (.slice A l.length c) m) 25)).alloc (.cells (profC nm' (.slice A' l'.length c') m') 25)).alloc (.cells (pixC r g b a) 35)).alloc (.cells #[.int .i64 0, .int .i64 0, .int .i64 0, .int .i64 0] 35)) (((w.alloc (.cells (profC nm (.slice A l.length c) m) 25)).alloc (.cells (profC nm' (.slice A' l'.length c') m') 25)).alloc (.cells (pixC r g b a) 35)).heap.size 35 #[.int .i64 0, .int .i64 0, .int .i64 0, .int .i64 0] := heap_alloc_new _ _
    have h := h
    simpa using h
  have hb : Below w.heap.size w ((((w.alloc (.cells (profC nm (.slice A l.length c) m) 25)).alloc (.cells (profC nm' (.slice A' l'.length c') m') 25)).alloc (.cells (pixC r g b a) 35)).alloc (.cells #[.int .i64 0, .int .i64 0, .int .i64 0, .int .i64 0] 35)) := (((((Below.refl _ _).alloc (Nat.le_refl _) _).alloc (by simp) _).alloc (by simp; omega) _).alloc (by simp; omega) _)
  generalize ((((w.alloc (.cells (profC nm (.slice A l.length c) m) 25)).alloc (.cells (profC nm' (.slice A' l'.length c') m') 25)).alloc (.cells (pixC r g b a) 35)).alloc (.cells #[.int .i64 0, .int .i64 0, .int .i64 0, .int .i64 0] 35)) = wc at *
  generalize hB : w.heap.size = B at *
  have HB := Lib.hid hB
  clear hB
  go_wp2_with (refine wpList_load_row rfl 25 (.tmp 3) rfl B rfl 25 (profC nm (.slice A l.length c) m) (0, 0) _ h0 Try.underlying25 rfl (profC_info _ _ _) ?_)
  refine (HK1.out _ hb).mono ?_; rintro e w1 ⟨rfl, b1⟩
  have g0_ := h0.kept b1 h0.lt
  have g1_ := h1.kept b1 h1.lt
  have g2_ := h2.kept b1 h2.lt
  have g3_ := h3.kept b1 h3.lt
  have gb_ := hb.trans (b1.mono (Nat.le_trans (Nat.le_of_eq HB.out.symm) hb.size))
  clear h0 h1 h2 h3 hb b1
  by_cases hpc : pc = 0
  · have hne : (pc == 0) = true := by simpa using hpc
    go_wp2_with (refine wpList_load_row rfl 25 (.tmp 4) rfl (B + 1) rfl 25 (profC nm' (.slice A' l'.length c') m') (0, 0) _ g1_ Try.underlying25 rfl (profC_info _ _ _) ?_)
    refine (HK2.out _ gb_).mono ?_; rintro e w2 ⟨rfl, b1⟩
    have k0_ := g0_.kept b1 g0_.lt
    have k1_ := g1_.kept b1 g1_.lt
    have k2_ := g2_.kept b1 g2_.lt
    have k3_ := g3_.kept b1 g3_.lt
    have kb_ := gb_.trans (b1.mono (Nat.le_trans (Nat.le_of_eq HB.out.symm) gb_.size))
    clear g0_ g1_ g2_ g3_ gb_ b1
    by_cases hqc : qc = 0
    · have hnq : (qc == 0) = true := by simpa using hqc
      go_wp2_with (first
        | (refine wpList_load_row rfl 25 (.tmp 3) rfl B rfl 25 (profC nm (.slice A l.length c) m) (0, 0) _ k0_ Try.underlying25 rfl (profC_info _ _ _) ?_)
        | (refine wpList_load_row rfl 25 (.tmp 4) rfl (B + 1) rfl 25 (profC nm' (.slice A' l'.length c') m') (0, 0) _ k1_ Try.underlying25 rfl (profC_info _ _ _) ?_))
      refine (HEQ.out _ kb_).mono ?_; rintro e w3 ⟨rfl, b1⟩
      have u0_ := k0_.kept b1 k0_.lt
      have u1_ := k1_.kept b1 k1_.lt
      have u2_ := k2_.kept b1 k2_.lt
      have u3_ := k3_.kept b1 k3_.lt
      have ub_ := kb_.trans (b1.mono (Nat.le_trans (Nat.le_of_eq HB.out.symm) kb_.size))
      clear k0_ k1_ k2_ k3_ kb_ b1
      cases sm
      · have HQ := Lib.hid (HP3.out hpc hqc rfl)
        clear HP0 HP1 HP2 HP3 HK1 HK2 HEQ HLI
        go_upto_region 9 with fail
        have k0 := u0_
        have k1 := u1_
        have k2 := u2_
        have k3 := u3_
        have HK := Lib.hid ub_
        clear u0_ u1_ u2_ u3_ ub_
        refine start_ (n := 11) (S := fun w' => holdsC w' B 25 (profC nm (.slice A l.length c) m) ∧ holdsC w' (B + 1) 25 (profC nm' (.slice A' l'.length c') m') ∧ holdsC w' (B + 1 + 1) 35 (pixC r g b a) ∧ holdsC w' (B + 1 + 1 + 1) 35 #[.int .i64 0, .int .i64 0, .int .i64 0, .int .i64 0]) (ds := [9]) #[false, false, false, false, false, false, false, false, false, false, false] (by kernel_rfl) rfl rfl ⟨k0, k1, k2, k3⟩ (fun hHeld => ?_)
        have HK := Lib.hid HK.out.drew
        refine take_ (i := 0) (N := some 26) (v := .agg (profC nm' (.slice A' l'.length c') m')) (a' := ?_) #[true, false, false, false, false, false, false, false, false, false, false] rfl rfl (by kernel_rfl) (fun _ _ _ h => h) (Or.inl ⟨by rfl, fun w' s => exec_loadC rfl rfl s.2.1 rfl Try.underlying25 (profC_info _ _ _)⟩) hHeld ?_ ?_
        rotate_left
        · simp only [Act.put, List.setIfInBounds_toArray, List.set_cons_zero, List.set_cons_succ]
          rfl
        refine take_ (i := 1) (N := some 27) (v := .agg (profC nm (.slice A l.length c) m)) (a' := ?_) #[true, true, false, false, false, false, false, false, false, false, false] rfl rfl (by kernel_rfl) (fun _ _ _ h => h) (Or.inl ⟨by rfl, fun w' s => exec_loadC rfl rfl s.1 rfl Try.underlying25 (profC_info _ _ _)⟩) hHeld ?_ ?_
        rotate_left
        · simp only [Act.put, List.setIfInBounds_toArray, List.set_cons_zero, List.set_cons_succ]
          rfl
        refine take_ (i := 2) (N := some 28) (v := .agg (pixC r g b a)) (a' := ?_) #[true, true, true, false, false, false, false, false, false, false, false] rfl rfl (by kernel_rfl) (fun _ _ _ h => h) (Or.inl ⟨by rfl, fun w' s => exec_loadC rfl rfl s.2.2.1 rfl Try.underlying35 (by kernel_rfl)⟩) hHeld ?_ ?_
        rotate_left
        · simp only [Act.put, List.setIfInBounds_toArray, List.set_cons_zero, List.set_cons_succ]
          rfl
        refine pure_ (i := 4) (N := some 30) (v := ?_) (a' := ?_) #[true, true, true, false, true, false, false, false, false, false, false] rfl rfl (by kernel_rfl) (fun _ _ _ h => h) (Or.inl ⟨by rfl, ?_⟩) ?_ ?_
        rotate_left
        · intro w'
          go_simp
          with_reducible rfl
        rotate_left
        · simp only [Act.put, List.setIfInBounds_toArray, List.set_cons_zero, List.set_cons_succ]
          rfl
        refine take_ (i := 5) (N := some 31) (v := ?_) (a' := ?_) #[true, true, true, false, true, true, false, false, false, false, false] rfl rfl (by kernel_rfl) (fun _ _ _ h => h) (Or.inl ⟨by rfl, ?_⟩) hHeld ?_ ?_
        rotate_left
        · rintro w' ⟨s0, s1, s2, s3⟩
          have c1 := s2.cell 3 (.int .i64 a) rfl
          go_simp
          with_reducible rfl
        rotate_left
        · simp only [Act.put, List.setIfInBounds_toArray, List.set_cons_zero, List.set_cons_succ]
          rfl
        refine one_ (i := 3) (N := some 29) #[true, true, true, true, true, true, false, false, false, false, false] rfl rfl (by kernel_rfl) (by decide) (fun K hK => ?_)
        refine goes_ Try.func27 (by kernel_rfl) rfl #[.agg (profC nm (.slice A l.length c) m), .agg (pixC r g b a)] (by rfl) rfl rfl (by simp only [List.map_toArray, List.map_cons, List.map_nil]; rfl) ?_
        refine (HL.out _ HK.out).mono ?_
        rintro e W1 ⟨rfl, b1⟩
        refine ⟨_, rfl, ?_⟩
        have q0 := hHeld.1.kept b1 hHeld.1.lt
        have q1 := hHeld.2.1.kept b1 hHeld.2.1.lt
        have q2 := hHeld.2.2.1.kept b1 hHeld.2.2.1.lt
        have q3 := hHeld.2.2.2.kept b1 hHeld.2.2.2.lt
        have HK := Lib.hid (HK.out.trans (b1.mono (Nat.le_trans (Nat.le_of_eq HB.out.symm) HK.out.size)))
        refine hK.out _ _ ⟨q0, q1, q2, q3⟩ (fun hHeld => ?_)
        clear hK K b1
        refine norm_ (a' := ?_) ?_ ?_
        rotate_left
        · show Act.put _ (some 29) _ = _
          simp only [Act.put, List.setIfInBounds_toArray, List.set_cons_zero, List.set_cons_succ]
          rfl
        refine one_ (i := 6) (N := some 32) #[true, true, true, true, true, true, true, false, false, false, false] rfl rfl (by kernel_rfl) (by decide) (fun K hK => ?_)
        refine goes_ Try.func25 (by kernel_rfl) rfl #[.agg (profC nm' (.slice A' l'.length c') m'), .agg (arrN 3 lp), .int .i64 a] (by rfl) rfl rfl (by simp only [List.map_toArray, List.map_cons, List.map_nil]; rfl) ?_
        refine (HEN.out _ HK.out).mono ?_
        rintro e W1 ⟨rfl, b1⟩
        refine ⟨_, rfl, ?_⟩
        have q0 := hHeld.1.kept b1 hHeld.1.lt
        have q1 := hHeld.2.1.kept b1 hHeld.2.1.lt
        have q2 := hHeld.2.2.1.kept b1 hHeld.2.2.1.lt
        have q3 := hHeld.2.2.2.kept b1 hHeld.2.2.2.lt
        have HK := Lib.hid (HK.out.trans (b1.mono (Nat.le_trans (Nat.le_of_eq HB.out.symm) HK.out.size)))
        refine hK.out _ _ ⟨q0, q1, q2, q3⟩ (fun hHeld => ?_)
        clear hK K b1
        refine norm_ (a' := ?_) ?_ ?_
        rotate_left
        · show Act.put _ (some 32) _ = _
          simp only [Act.put, List.setIfInBounds_toArray, List.set_cons_zero, List.set_cons_succ]
          rfl
        refine pure_ (i := 7) (N := some 33) (v := ?_) (a' := ?_) #[true, true, true, true, true, true, true, true, false, false, false] rfl rfl (by kernel_rfl) (fun _ _ _ h => h) (Or.inl ⟨by rfl, ?_⟩) ?_ ?_
        rotate_left
        · intro w'
          go_simp
          with_reducible rfl
        rotate_left
        · simp only [Act.put, List.setIfInBounds_toArray, List.set_cons_zero, List.set_cons_succ]
          rfl
        refine pure_ (i := 8) (N := some 34) (v := ?_) (a' := ?_) #[true, true, true, true, true, true, true, true, true, false, false] rfl rfl (by kernel_rfl) (fun _ _ _ h => h) (Or.inl ⟨by rfl, ?_⟩) ?_ ?_
        rotate_left
        · intro w'
          go_simp
          with_reducible rfl
        rotate_left
        · simp only [Act.put, List.setIfInBounds_toArray, List.set_cons_zero, List.set_cons_succ]
          rfl
        refine last_ (i := 9) (N := none) #[true, true, true, true, true, true, true, true, true, true, false] rfl rfl (by kernel_rfl) (by decide) (fun K hK => ?_)
        refine skip_ (by rfl) rfl (exec_storeC (c := pixF ep) rfl rfl rfl hHeld.2.2.2 (by kernel_rfl) rfl (by kernel_rfl)) ?_
        have e2 := holdsC_row hHeld.2.2.2 (pixF ep)
        have HK := Lib.hid (below_setRow HK.out (show B ≤ B + 1 + 1 + 1 by omega) (pixF ep))
        refine hK.out _ _ ?_
        clear hK K
        refine pure_ (i := 10) (N := some 7) (v := ?_) (a' := ?_) #[true, true, true, true, true, true, true, true, true, true, true] rfl rfl (by kernel_rfl) (fun _ _ _ h => h) (Or.inl ⟨by rfl, ?_⟩) ?_ ?_
        rotate_left
        · intro w'
          go_simp
          with_reducible rfl
        rotate_left
        · simp only [Act.put, List.setIfInBounds_toArray, List.set_cons_zero, List.set_cons_succ]
          rfl
        refine done_ (by kernel_rfl) ?_
        subst hqc
        go_wp2_with fail
        refine bodyPost_ret (v := .tuple #[.agg (pixF ep), .int .i64 0]) (results_row_tmp rfl _ _ rfl rfl e2 rfl Try.underlying35 (by kernel_rfl)) rfl ?_
        exact ⟨by rw [HQ.out.1, HQ.out.2], by rw [HB.out]; exact HK.out⟩
      · have HQ := Lib.hid (HP2.out hpc hqc rfl)
        go_wp2_with (refine wpList_load_row rfl 35 (.tmp 5) rfl (B + 1 + 1) rfl 35 (pixC r g b a) (0, 0) _ u2_ Try.underlying35 rfl (by kernel_rfl) ?_)
        refine (HLI.out _).mono ?_; rintro e w4 ⟨rfl, b1⟩
        have v0_ := u0_.kept b1 u0_.lt
        have v1_ := u1_.kept b1 u1_.lt
        have v2_ := u2_.kept b1 u2_.lt
        have v3_ := u3_.kept b1 u3_.lt
        have vb_ := ub_.trans (b1.mono (Nat.le_trans (Nat.le_of_eq HB.out.symm) ub_.size))
        clear u0_ u1_ u2_ u3_ ub_ b1
        go_wp2_with (refine wpList_store_row rfl 35 (.tmp 6) (.tmp 25) rfl (B + 1 + 1 + 1) (pixC (lim r) (lim g) (lim b) (lim a)) rfl rfl 35 _ v3_ (by kernel_rfl) rfl (by kernel_rfl) ?_)
        refine bodyPost_ret (v := .tuple #[.agg (pixC (lim r) (lim g) (lim b) (lim a)), .int .i64 0]) (results_row_tmp rfl _ _ rfl rfl (holdsC_row v3_ _) rfl Try.underlying35 (by kernel_rfl)) rfl ?_
        exact ⟨by rw [HQ.out.1, HQ.out.2]; rfl, by rw [HB.out]; exact below_setRow vb_ (by omega) _⟩
    · have hnq : (qc == 0) = false := by simpa using hqc
      have HQ := Lib.hid (HP1.out hpc hqc)
      go_wp2_with (first
        | (refine wpList_build_as rfl 35 _ rfl #[.int .i64 0, .int .i64 0, .int .i64 0, .int .i64 0] (by kernel_rfl) ?_)
        | (refine wpList_store_row rfl 35 (.tmp 6) (.tmp 19) rfl (B + 1 + 1 + 1) #[.int .i64 0, .int .i64 0, .int .i64 0, .int .i64 0] rfl rfl 35 _ k3_ (by kernel_rfl) rfl (by kernel_rfl) ?_))
      refine bodyPost_ret (v := .tuple #[.agg #[.int .i64 0, .int .i64 0, .int .i64 0, .int .i64 0], .int .i64 qc]) (results_row_tmp rfl _ _ rfl rfl (holdsC_row k3_ _) rfl Try.underlying35 (by kernel_rfl)) rfl ?_
      exact ⟨by rw [HQ.out.1, HQ.out.2]; rfl, by rw [HB.out]; exact below_setRow kb_ (by omega) _⟩
  · have hne : (pc == 0) = false := by simpa using hpc
    have HQ := Lib.hid (HP0.out hpc)
    go_wp2_with (first
      | (refine wpList_build_as rfl 35 _ rfl #[.int .i64 0, .int .i64 0, .int .i64 0, .int .i64 0] (by kernel_rfl) ?_)
      | (refine wpList_store_row rfl 35 (.tmp 6) (.tmp 13) rfl (B + 1 + 1 + 1) #[.int .i64 0, .int .i64 0, .int .i64 0, .int .i64 0] rfl rfl 35 _ g3_ (by kernel_rfl) rfl (by kernel_rfl) ?_))
    refine bodyPost_ret (v := .tuple #[.agg #[.int .i64 0, .int .i64 0, .int .i64 0, .int .i64 0], .int .i64 pc]) (results_row_tmp rfl _ _ rfl rfl (holdsC_row g3_ _) rfl Try.underlying35 (by kernel_rfl)) rfl ?_
    exact ⟨by rw [HQ.out.1, HQ.out.2]; rfl, by rw [HB.out]; exact below_setRow gb_ (by omega) _⟩
end Go.Proofs.Ytlpfepcmpccbeaa.Pf
