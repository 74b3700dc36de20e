/-
  Proved: contracts of functions of the program and of the reference, several texts of mine in one; the conditions stand at each theorem.
-/
import Derived.Test.YtlpfepcmpccbeaaZT
/-
  Closed values for awake.
-/
namespace Go.Proofs.Ytlpfepcmpccbeaa.Aw
open Go.RowKit Go.Proofs.Ytlpfepcmpccbeaa.NM Go.Proofs.Ytlpfepcmpccbeaa.Cv Go.Proofs.Ytlpfepcmpccbeaa.Wi Go.Proofs.Ytlpfepcmpccbeaa.Nm9 Go.Proofs.Ytlpfepcmpccbeaa.Mx Go.Proofs.Ytlpfepcmpccbeaa.Pf Go.Proofs.Ytlpfepcmpccbeaa.Pt Go.Proofs.Ytlpfepcmpccbeaa.PNum Go.Proofs.YtlpfepcmpccbeaaW.PrintWords Go.Proofs.YtlpfepcmpccbeaaW.PrintMore Go.Proofs.YtlpfepcmpccbeaaW.PrintLast
set_option linter.unusedVariables false

/-- the linear and the warm profile's knots -/
def linL : List Kn := pairsK (stdI 0)
def warmL : List Kn := pairsK (stdI 3)
def vecA : Nat → Int := fun k => ([70000, -1, 5] : List Int).getD k 0
theorem c_lin : profCheck (stdN 0) linL (stdM 0) = 0 := by decide +kernel
theorem c_warm : profCheck (stdN 3) warmL (stdM 3) = 0 := by decide +kernel
theorem c_none : profCheck ⟨#[]⟩ [] (fun _ => 0) = 13 := by decide +kernel
theorem c_x : profCheck ⟨#[120]⟩ [] (fun _ => 0) = 16 := by decide +kernel
theorem e0 : encP (stdN 0) linL (stdM 0) vecA 65535 0 = 65535 := by decide +kernel
theorem e1 : encP (stdN 0) linL (stdM 0) vecA 65535 1 = 0 := by decide +kernel
theorem e2 : encP (stdN 0) linL (stdM 0) vecA 65535 2 = 5 := by decide +kernel
theorem e3 : encP (stdN 0) linL (stdM 0) vecA 65535 3 = 65535 := by decide +kernel
theorem l0 : linP (stdN 3) warmL (stdM 3) 16384 0 0 0 = 7500 := by decide +kernel
theorem l1 : linP (stdN 3) warmL (stdM 3) 16384 0 0 1 = 250 := by decide +kernel
theorem l2 : linP (stdN 3) warmL (stdM 3) 16384 0 0 2 = 0 := by decide +kernel
theorem b_lin : bothC (stdN 0) linL (stdM 0) (stdN 0) linL (stdM 0) = 0 := by unfold bothC; rw [if_pos c_lin]; exact c_lin
theorem b_lw : bothC (stdN 0) linL (stdM 0) (stdN 3) warmL (stdM 3) = 0 := by unfold bothC; rw [if_pos c_lin]; exact c_warm
theorem v0 : convP (stdN 0) linL (stdM 0) (stdN 0) linL (stdM 0) 5 6 7 0 0 = 5 := by decide +kernel
theorem v1 : convP (stdN 0) linL (stdM 0) (stdN 0) linL (stdM 0) 5 6 7 0 1 = 6 := by decide +kernel
theorem v2 : convP (stdN 0) linL (stdM 0) (stdN 0) linL (stdM 0) 5 6 7 0 2 = 7 := by decide +kernel
theorem v3 : convP (stdN 0) linL (stdM 0) (stdN 0) linL (stdM 0) 5 6 7 0 3 = 0 := by decide +kernel
theorem z0 : convP (stdN 0) linL (stdM 0) (stdN 3) warmL (stdM 3) 5 6 7 0 0 = 0 := by decide +kernel
theorem z1 : convP (stdN 0) linL (stdM 0) (stdN 3) warmL (stdM 3) 5 6 7 0 1 = 0 := by decide +kernel
theorem z2 : convP (stdN 0) linL (stdM 0) (stdN 3) warmL (stdM 3) 5 6 7 0 2 = 0 := by decide +kernel
theorem z3 : convP (stdN 0) linL (stdM 0) (stdN 3) warmL (stdM 3) 5 6 7 0 3 = 0 := by decide +kernel
theorem y_size : (bytesP (stdN 0) linL (stdM 0)).size = 31 := by decide +kernel
theorem y_more : parseC (bytesP (stdN 0) linL (stdM 0) ++ ⟨#[120]⟩) = 6 := by decide +kernel
theorem y_none : parseC ⟨#[]⟩ = 5 := by decide +kernel
end Go.Proofs.Ytlpfepcmpccbeaa.Aw
/-
  awake: the chapter's examples.
-/
namespace Go.Proofs.Ytlpfepcmpccbeaa.Aw
open Go.RowKit Go.Proofs.Ytlpfepcmpccbeaa.NM Go.Proofs.Ytlpfepcmpccbeaa.Cv Go.Proofs.Ytlpfepcmpccbeaa.Wi Go.Proofs.Ytlpfepcmpccbeaa.Nm9 Go.Proofs.Ytlpfepcmpccbeaa.Mx Go.Proofs.Ytlpfepcmpccbeaa.Pf Go.Proofs.Ytlpfepcmpccbeaa.Pt Go.Proofs.Ytlpfepcmpccbeaa.PNum Go.Proofs.YtlpfepcmpccbeaaW.PrintWords Go.Proofs.YtlpfepcmpccbeaaW.PrintMore Go.Proofs.YtlpfepcmpccbeaaW.PrintLast
attribute [local go_sem] eq9 eq3
attribute [local go_sem high] eqA35
set_option linter.unusedVariables false

theorem aw_std0 (w : World) : Calls Try.prog 15 #[.int .i64 0] w fun e w' => ∃ A c, e = .returned (.tuple #[.agg (profC (stdN 0) (.slice A linL.length c) (stdM 0)), .int .i64 0]) ∧ Kd.C k72 w' A linL.length linL ∧ linL.length ≤ c ∧ Below w.heap.size w w' := pstd_any 0 w
theorem aw_std1 (w : World) : Calls Try.prog 15 #[.int .i64 1] w fun e w' => ∃ A c, e = .returned (.tuple #[.agg (profC (stdN 1) (.slice A (pairsK (stdI 1)).length c) (stdM 1)), .int .i64 0]) ∧ Kd.C k72 w' A (pairsK (stdI 1)).length (pairsK (stdI 1)) ∧ (pairsK (stdI 1)).length ≤ c ∧ Below w.heap.size w w' := pstd_any 1 w
theorem aw_std3 (w : World) : Calls Try.prog 15 #[.int .i64 3] w fun e w' => ∃ A c, e = .returned (.tuple #[.agg (profC (stdN 3) (.slice A warmL.length c) (stdM 3)), .int .i64 0]) ∧ Kd.C k72 w' A warmL.length warmL ∧ warmL.length ≤ c ∧ Below w.heap.size w w' := pstd_any 3 w
theorem aw_std4 (w : World) : Calls Try.prog 15 #[.int .i64 4] w fun e w' => ∃ A c, e = .returned (.tuple #[.agg (profC (stdN 4) (.slice A (pairsK (stdI 4)).length c) (stdM 4)), .int .i64 2]) ∧ Kd.C k72 w' A (pairsK (stdI 4)).length (pairsK (stdI 4)) ∧ (pairsK (stdI 4)).length ≤ c ∧ Below w.heap.size w w' := pstd_any 4 w
set_option maxRecDepth 20000
theorem aw_enc (A : Option Addr) (c0 : Nat) (w : World) (hr : Kd.C k72 w A linL.length linL) (hc : linL.length ≤ c0) :
    Calls Try.prog 24 #[.agg (profC (stdN 0) (.slice A linL.length c0) (stdM 0)), .agg #[.int .i64 70000, .int .i64 (-1), .int .i64 5], .int .i64 65535] w fun e w' => e = .returned (.tuple #[.agg #[.int .i64 65535, .int .i64 0, .int .i64 5, .int .i64 65535], .int .i64 0]) ∧ Below w.heap.size w w' := by
  have h := pEncode_any (stdN 0) A c0 linL (stdM 0) vecA 65535 w (by decide) hr hc
  rw [c_lin] at h
  unfold pixF at h
  rw [e0, e1, e2, e3] at h
  exact h
theorem aw_con (A : Option Addr) (c0 : Nat) (w : World) (hr : Kd.C k72 w A linL.length linL) (hc : linL.length ≤ c0) :
    Calls Try.prog 14 #[.agg (profC (stdN 0) (.slice A linL.length c0) (stdM 0)), .agg (profC (stdN 0) (.slice A linL.length c0) (stdM 0)), .agg #[.int .i64 5, .int .i64 6, .int .i64 7, .int .i64 0]] w fun e w' => e = .returned (.tuple #[.agg #[.int .i64 5, .int .i64 6, .int .i64 7, .int .i64 0], .int .i64 0]) ∧ Below w.heap.size w w' := by
  have h := pConvert_any (stdN 0) A c0 linL (stdM 0) (stdN 0) A c0 linL (stdM 0) 5 6 7 0 w (by decide) (by decide) hr hc (by decide) hr hc
  rw [b_lin] at h
  unfold pixF at h
  rw [v0, v1, v2, v3] at h
  exact h
theorem aw_conw (A A3 : Option Addr) (c0 c3 : Nat) (w : World) (hr : Kd.C k72 w A linL.length linL) (hc : linL.length ≤ c0) (hr3 : Kd.C k72 w A3 warmL.length warmL) (hc3 : warmL.length ≤ c3) :
    Calls Try.prog 14 #[.agg (profC (stdN 0) (.slice A linL.length c0) (stdM 0)), .agg (profC (stdN 3) (.slice A3 warmL.length c3) (stdM 3)), .agg #[.int .i64 5, .int .i64 6, .int .i64 7, .int .i64 0]] w fun e w' => e = .returned (.tuple #[.agg #[.int .i64 0, .int .i64 0, .int .i64 0, .int .i64 0], .int .i64 0]) ∧ Below w.heap.size w w' := by
  have h := pConvert_any (stdN 0) A c0 linL (stdM 0) (stdN 3) A3 c3 warmL (stdM 3) 5 6 7 0 w (by decide) (by decide) hr hc (by decide) hr3 hc3
  rw [b_lw] at h
  unfold pixF at h
  rw [z0, z1, z2, z3] at h
  exact h
theorem aw_bytes (A : Option Addr) (c0 : Nat) (w : World) (hr : Kd.C k72 w A linL.length linL) (hc : linL.length ≤ c0) :
    Calls Try.prog 17 #[.agg (profC (stdN 0) (.slice A linL.length c0) (stdM 0))] w fun e w' => e = .returned (.tuple #[.string (bytesP (stdN 0) linL (stdM 0)), .int .i64 0]) ∧ Below w.heap.size w w' := by
  have h := pBytes_any (stdN 0) A c0 linL (stdM 0) w (by decide) hr hc
  rw [c_lin] at h
  exact h
theorem aw_parse (s : ByteArray) (w : World) (hs : s.size ≤ 140737488355232) (k : Int) (hk : parseC s = k) :
    Calls Try.prog 29 #[.string s] w fun e w' => ∃ nm A2 n c2 m, e = .returned (.tuple #[.agg (profC nm (.slice A2 n c2) m), .int .i64 k]) ∧ Below w.heap.size w w' := by
  have h := pParse_any s w hs
  rw [hk] at h
  refine h.mono ?_
  rintro e w' ⟨A2, c2, h1, _, _, h2⟩
  exact ⟨_, A2, _, c2, _, h1, h2⟩
def vecL : Nat → Int := fun k => ([7500, 250, 0] : List Int).getD k 0
theorem aw_linear (A : Option Addr) (c3 : Nat) (w : World) (hr : Kd.C k72 w A warmL.length warmL) (hc : warmL.length ≤ c3) :
    Calls Try.prog 26 #[.agg (profC (stdN 3) (.slice A warmL.length c3) (stdM 3)), .agg #[.int .i64 16384, .int .i64 0, .int .i64 0, .int .i64 65535]] w fun e w' => e = .returned (.agg (arrN 3 vecL)) ∧ Below w.heap.size w w' := by
  have h := pLinear_any (stdN 3) A c3 warmL (stdM 3) 16384 0 0 65535 w (by decide) hr hc
  have e : arrN 3 (linP (stdN 3) warmL (stdM 3) 16384 0 0) = arrN 3 vecL := by
    show #[Value.int .i64 (linP (stdN 3) warmL (stdM 3) 16384 0 0 0), Value.int .i64 (linP (stdN 3) warmL (stdM 3) 16384 0 0 1), Value.int .i64 (linP (stdN 3) warmL (stdM 3) 16384 0 0 2)] = _
    rw [l0, l1, l2]
    rfl
  rw [e] at h
  exact h
theorem aw_check (nm : ByteArray) (k : Int) (hn : nm.size ≤ 140737488355232) (hk : profCheck nm [] (fun _ => 0) = k) (w : World) :
    Calls Try.prog 22 #[.agg (profC nm (.slice none 0 0) (fun _ => 0))] w fun e w' => e = .returned (.int .i64 k) ∧ Below w.heap.size w w' := by
  have h := pcheck_any nm none 0 [] (fun _ => 0) w hn (Kd.C_nil _ _) (Nat.le_refl _)
  rw [hk] at h
  exact h
theorem aw_count (w : World) : Calls Try.prog 19 #[] w fun e w' => e = .returned (.int .i64 4) ∧ Below w.heap.size w w' :=
  (profile_Count.calls 4 w rfl).mono fun e w' h => ⟨h.1, drawn_below h.2⟩
theorem wpList_build_g {P : Program} {ops : Array Oper} {rest : List Oper} {o : Oper} {a : Act} {w : World} {Q : Exit → Act → World → Prop} (d : Nat) (hd : o.dst = some d) (hw : Region.wanted o (yielded ops a.tmps) = true) (t : TypeId) (parts : Array (Nat × Operand)) (ho : o.op = .build t parts)
    (cells : Array Value) (hc : P.built t (parts.map fun (i, x) => (i, a.eval x)).toList = some cells)
    (h : wpList P ops Q rest (a.put (some d) (.agg cells)) w) : wpList P ops Q (o :: rest) a w := by
  refine wpList_step fun K hK => ?_
  rw [if_pos hw]
  unfold Oper.wp execOp
  simp only [ho, Sem.run_bind, run_build w t _ cells hc, Result.andThen_ok]
  rw [← hd] at h
  exact hK _ _ h
theorem wpList_load_g {ops : Array Oper} {rest : List Oper} {o : Oper} {a : Act} {w : World} {Q : Exit → Act → World → Prop} (N : Nat) (hd : o.dst = some N) (hw : Region.wanted o (yielded ops a.tmps) = true) (ty : TypeId) (x : Operand) (ho : o.op = .load ty x)
    {g t : Nat} {c : Array Value} (hx : a.eval x = .pointer (some ⟨g, 0, none⟩)) (hh : holdsC w g t c) {d : TypeDesc} (hu : Try.prog.underlying ty = some d) (hdd : d.isRow = true) (hi : (Try.prog.info? ty).map (·.size) = some c.size)
    (h : wpList Try.prog ops Q rest (a.put o.dst (.agg c)) w) : wpList Try.prog ops Q (o :: rest) a w :=
  wpList_step fun K hK => by rw [if_pos hw]; exact wp_load_row ty x ho g hx t c (0, 0) d hh hu (by cases d <;> first | rfl | cases hdd) hi (hK _ _ h)
theorem na0 : (stdN 0).toList = [108, 105, 110, 101, 97, 114] := by decide +kernel
theorem na1 : (stdN 1).toList = [115, 114, 103, 98] := by decide +kernel
theorem na3 : (stdN 3).toList = [119, 97, 114, 109] := by decide +kernel
attribute [local irreducible] stdN stdM stdI pairsK linL warmL bytesP parseC parseN parseL parseM
set_option maxRecDepth 100000 in
set_option maxHeartbeats 40000000 in
theorem awake_true (w : World) : Calls Try.prog 13 #[] w fun e w' => e = .returned (.bool true) ∧ Below w.heap.size w w' := by
  have HE0 := Lib.hid aw_enc
  have HCO := Lib.hid aw_con
  have HCW := Lib.hid aw_conw
  have HBY := Lib.hid aw_bytes
  have HLIN := Lib.hid aw_linear
  have HYS := Lib.hid y_size
  have HYM := Lib.hid y_more
  have HS0 := Lib.hid aw_std0
  have HS1 := Lib.hid aw_std1
  have HS3 := Lib.hid aw_std3
  have HS4 := Lib.hid aw_std4
  have HNA0 := Lib.hid na0
  have HNA1 := Lib.hid na1
  have HNA3 := Lib.hid na3
  have HK1 := Lib.hid (fun w => aw_check ⟨#[]⟩ 13 (by decide) c_none w)
  have HK2 := Lib.hid (fun w => aw_check ⟨#[120]⟩ 16 (by decide) c_x w)
  generalize hbs : bytesP (stdN 0) linL (stdM 0) = bs at *
  clear hbs
  generalize stdN 0 = n0 at *
  generalize stdN 1 = n1 at *
  generalize stdN 3 = n3 at *
  generalize stdN 4 = n4 at *
  generalize stdM 0 = m0 at *
  generalize stdM 1 = m1 at *
  generalize stdM 3 = m3 at *
  generalize stdM 4 = m4 at *
  generalize linL = L0 at *
  generalize warmL = L3 at *
  generalize pairsK (stdI 1) = L1 at *
  generalize pairsK (stdI 4) = L4 at *
  have hbx : (bs ++ ⟨#[120]⟩ : ByteArray).size ≤ 140737488355232 := by rw [ByteArray.size_append, HYS.out]; decide
  have HPA := Lib.hid (fun w => aw_parse (bs ++ ⟨#[120]⟩) w hbx 6 HYM.out)
  have HPB := Lib.hid (fun w => aw_parse ⟨#[]⟩ w (by decide) 5 y_none)
  have hy2 : bs.size + (⟨#[120]⟩ : ByteArray).size ≤ 9223372036854775807 := by rw [HYS.out]; decide
  clear hbx
  go_enter Try.func13, Try.ntmps13
  have hb := Below.refl w.heap.size w
  generalize hB : w.heap.size = B at *
  have HB := Lib.hid hB
  clear hB
  go_wp2_with fail
  refine (HS0.out _).mono ?_; rintro e w1 ⟨A0, c0, rfl, hC0, hc0, b1⟩
  have gb_ := hb.trans (b1.mono (Nat.le_trans (Nat.le_of_eq HB.out.symm) hb.size))
  clear hb b1
  have HC0_0 : Hid (∀  w', Below w1.heap.size w1 w' → Kd.C k72 w' A0 L0.length L0) := fun w' h => Kd.C_below hC0 h
  replace hc0 : L0.length ≤ c0 := hc0
  clear hC0
  have H3 : holdsC (w1.alloc (.cells #[.string ⟨#[]⟩, .slice none 0 0, .int .i64 0, .int .i64 0, .int .i64 0, .int .i64 0, .int .i64 0, .int .i64 0, .int .i64 0, .int .i64 0, .int .i64 0] 25)) w1.heap.size 25 #[.string ⟨#[]⟩, .slice none 0 0, .int .i64 0, .int .i64 0, .int .i64 0, .int .i64 0, .int .i64 0, .int .i64 0, .int .i64 0, .int .i64 0, .int .i64 0] := heap_alloc_new _ _
  have k0_ := holdsC_row H3 (profC n0 (.slice A0 L0.length c0) m0)
  have nq1 : B ≤ w1.heap.size := by rw [← HB.out]; exact gb_.size
  have kb_ := below_setRow (gb_.alloc nq1 (.cells #[.string ⟨#[]⟩, .slice none 0 0, .int .i64 0, .int .i64 0, .int .i64 0, .int .i64 0, .int .i64 0, .int .i64 0, .int .i64 0, .int .i64 0, .int .i64 0] 25)) nq1 (profC n0 (.slice A0 L0.length c0) m0)
  have bb := below_setRow ((Below.refl w1.heap.size w1).alloc (Nat.le_refl _) (.cells #[.string ⟨#[]⟩, .slice none 0 0, .int .i64 0, .int .i64 0, .int .i64 0, .int .i64 0, .int .i64 0, .int .i64 0, .int .i64 0, .int .i64 0, .int .i64 0] 25)) (Nat.le_refl _) (profC n0 (.slice A0 L0.length c0) m0)
  have HC0_1 : Hid (∀  w', Below ((w1.alloc (.cells #[.string ⟨#[]⟩, .slice none 0 0, .int .i64 0, .int .i64 0, .int .i64 0, .int .i64 0, .int .i64 0, .int .i64 0, .int .i64 0, .int .i64 0, .int .i64 0] 25)).setRow w1.heap.size (profC n0 (.slice A0 L0.length c0) m0)).heap.size ((w1.alloc (.cells #[.string ⟨#[]⟩, .slice none 0 0, .int .i64 0, .int .i64 0, .int .i64 0, .int .i64 0, .int .i64 0, .int .i64 0, .int .i64 0, .int .i64 0, .int .i64 0] 25)).setRow w1.heap.size (profC n0 (.slice A0 L0.length c0) m0)) w' → Kd.C k72 w' A0 L0.length L0) := fun  w' h => HC0_0.out  w' (bb.trans (h.mono bb.size))
  clear HC0_0
  clear bb
  go_upto_region 2 with (first | (refine wpList_store_row rfl 25 (.tmp 1) (.tmp 23) rfl _ (profC n0 (.slice A0 L0.length c0) m0) rfl rfl 25 _ H3 (profC_info _ _ _) (by rw [profC_size]; rfl) (profC_one _ _ _ rfl) ?_))
  clear H3  gb_
  generalize (w1.alloc (.cells #[.string ⟨#[]⟩, .slice none 0 0, .int .i64 0, .int .i64 0, .int .i64 0, .int .i64 0, .int .i64 0, .int .i64 0, .int .i64 0, .int .i64 0, .int .i64 0] 25)).setRow w1.heap.size (profC n0 (.slice A0 L0.length c0) m0) = w2 at *
  generalize w1.heap.size = q1 at *
  go_wp2_with fail
  refine (HS1.out _).mono ?_; rintro e w3 ⟨A1, c1, rfl, hC1, hc1, b1⟩
  have u0_ := k0_.kept b1 k0_.lt
  have ub_ := kb_.trans (b1.mono (Nat.le_trans (Nat.le_of_eq HB.out.symm) kb_.size))
  have HC0_2 : Hid (∀  w', Below w3.heap.size w3 w' → Kd.C k72 w' A0 L0.length L0) := fun  w' h => HC0_1.out  w' (b1.trans (h.mono b1.size))
  clear HC0_1
  clear k0_ kb_ b1
  clear hC1 hc1
  have H3 : holdsC (w3.alloc (.cells #[.string ⟨#[]⟩, .slice none 0 0, .int .i64 0, .int .i64 0, .int .i64 0, .int .i64 0, .int .i64 0, .int .i64 0, .int .i64 0, .int .i64 0, .int .i64 0] 25)) w3.heap.size 25 #[.string ⟨#[]⟩, .slice none 0 0, .int .i64 0, .int .i64 0, .int .i64 0, .int .i64 0, .int .i64 0, .int .i64 0, .int .i64 0, .int .i64 0, .int .i64 0] := heap_alloc_new _ _
  have v0_ := (u0_.alloc (.cells #[.string ⟨#[]⟩, .slice none 0 0, .int .i64 0, .int .i64 0, .int .i64 0, .int .i64 0, .int .i64 0, .int .i64 0, .int .i64 0, .int .i64 0, .int .i64 0] 25)).setRowOther (g' := w3.heap.size) (by have := u0_.lt; omega) (profC n1 (.slice A1 L1.length c1) m1)
  have nv0_ : q1 < w3.heap.size := u0_.lt
  have v1_ := holdsC_row H3 (profC n1 (.slice A1 L1.length c1) m1)
  have nq2 : B ≤ w3.heap.size := by rw [← HB.out]; exact ub_.size
  have vb_ := below_setRow (ub_.alloc nq2 (.cells #[.string ⟨#[]⟩, .slice none 0 0, .int .i64 0, .int .i64 0, .int .i64 0, .int .i64 0, .int .i64 0, .int .i64 0, .int .i64 0, .int .i64 0, .int .i64 0] 25)) nq2 (profC n1 (.slice A1 L1.length c1) m1)
  have bb := below_setRow ((Below.refl w3.heap.size w3).alloc (Nat.le_refl _) (.cells #[.string ⟨#[]⟩, .slice none 0 0, .int .i64 0, .int .i64 0, .int .i64 0, .int .i64 0, .int .i64 0, .int .i64 0, .int .i64 0, .int .i64 0, .int .i64 0] 25)) (Nat.le_refl _) (profC n1 (.slice A1 L1.length c1) m1)
  have HC0_3 : Hid (∀  w', Below ((w3.alloc (.cells #[.string ⟨#[]⟩, .slice none 0 0, .int .i64 0, .int .i64 0, .int .i64 0, .int .i64 0, .int .i64 0, .int .i64 0, .int .i64 0, .int .i64 0, .int .i64 0] 25)).setRow w3.heap.size (profC n1 (.slice A1 L1.length c1) m1)).heap.size ((w3.alloc (.cells #[.string ⟨#[]⟩, .slice none 0 0, .int .i64 0, .int .i64 0, .int .i64 0, .int .i64 0, .int .i64 0, .int .i64 0, .int .i64 0, .int .i64 0, .int .i64 0] 25)).setRow w3.heap.size (profC n1 (.slice A1 L1.length c1) m1)) w' → Kd.C k72 w' A0 L0.length L0) := fun  w' h => HC0_2.out  w' (bb.trans (h.mono bb.size))
  clear HC0_2
  clear bb
  go_upto_region 3 with (first | (refine wpList_store_row rfl 25 (.tmp 3) (.tmp 27) rfl _ (profC n1 (.slice A1 L1.length c1) m1) rfl rfl 25 _ H3 (profC_info _ _ _) (by rw [profC_size]; rfl) (profC_one _ _ _ rfl) ?_))
  clear H3 u0_ ub_
  generalize (w3.alloc (.cells #[.string ⟨#[]⟩, .slice none 0 0, .int .i64 0, .int .i64 0, .int .i64 0, .int .i64 0, .int .i64 0, .int .i64 0, .int .i64 0, .int .i64 0, .int .i64 0] 25)).setRow w3.heap.size (profC n1 (.slice A1 L1.length c1) m1) = w4 at *
  generalize w3.heap.size = q2 at *
  go_wp2_with fail
  refine (HS3.out _).mono ?_; rintro e w5 ⟨A3, c3, rfl, hC3, hc3, b1⟩
  have x0_ := v0_.kept b1 v0_.lt
  have x1_ := v1_.kept b1 v1_.lt
  have xb_ := vb_.trans (b1.mono (Nat.le_trans (Nat.le_of_eq HB.out.symm) vb_.size))
  have HC0_4 : Hid (∀  w', Below w5.heap.size w5 w' → Kd.C k72 w' A0 L0.length L0) := fun  w' h => HC0_3.out  w' (b1.trans (h.mono b1.size))
  clear HC0_3
  clear v0_ v1_ vb_ b1
  have HC3_0 : Hid (∀  w', Below w5.heap.size w5 w' → Kd.C k72 w' A3 L3.length L3) := fun w' h => Kd.C_below hC3 h
  replace hc3 : L3.length ≤ c3 := hc3
  clear hC3
  have H3 : holdsC (w5.alloc (.cells #[.string ⟨#[]⟩, .slice none 0 0, .int .i64 0, .int .i64 0, .int .i64 0, .int .i64 0, .int .i64 0, .int .i64 0, .int .i64 0, .int .i64 0, .int .i64 0] 25)) w5.heap.size 25 #[.string ⟨#[]⟩, .slice none 0 0, .int .i64 0, .int .i64 0, .int .i64 0, .int .i64 0, .int .i64 0, .int .i64 0, .int .i64 0, .int .i64 0, .int .i64 0] := heap_alloc_new _ _
  have y0_ := (x0_.alloc (.cells #[.string ⟨#[]⟩, .slice none 0 0, .int .i64 0, .int .i64 0, .int .i64 0, .int .i64 0, .int .i64 0, .int .i64 0, .int .i64 0, .int .i64 0, .int .i64 0] 25)).setRowOther (g' := w5.heap.size) (by have := x0_.lt; omega) (profC n3 (.slice A3 L3.length c3) m3)
  have ny0_ : q1 < w5.heap.size := x0_.lt
  have y1_ := (x1_.alloc (.cells #[.string ⟨#[]⟩, .slice none 0 0, .int .i64 0, .int .i64 0, .int .i64 0, .int .i64 0, .int .i64 0, .int .i64 0, .int .i64 0, .int .i64 0, .int .i64 0] 25)).setRowOther (g' := w5.heap.size) (by have := x1_.lt; omega) (profC n3 (.slice A3 L3.length c3) m3)
  have ny1_ : q2 < w5.heap.size := x1_.lt
  have y2_ := holdsC_row H3 (profC n3 (.slice A3 L3.length c3) m3)
  have nq3 : B ≤ w5.heap.size := by rw [← HB.out]; exact xb_.size
  have yb_ := below_setRow (xb_.alloc nq3 (.cells #[.string ⟨#[]⟩, .slice none 0 0, .int .i64 0, .int .i64 0, .int .i64 0, .int .i64 0, .int .i64 0, .int .i64 0, .int .i64 0, .int .i64 0, .int .i64 0] 25)) nq3 (profC n3 (.slice A3 L3.length c3) m3)
  have bb := below_setRow ((Below.refl w5.heap.size w5).alloc (Nat.le_refl _) (.cells #[.string ⟨#[]⟩, .slice none 0 0, .int .i64 0, .int .i64 0, .int .i64 0, .int .i64 0, .int .i64 0, .int .i64 0, .int .i64 0, .int .i64 0, .int .i64 0] 25)) (Nat.le_refl _) (profC n3 (.slice A3 L3.length c3) m3)
  have HC0_5 : Hid (∀  w', Below ((w5.alloc (.cells #[.string ⟨#[]⟩, .slice none 0 0, .int .i64 0, .int .i64 0, .int .i64 0, .int .i64 0, .int .i64 0, .int .i64 0, .int .i64 0, .int .i64 0, .int .i64 0] 25)).setRow w5.heap.size (profC n3 (.slice A3 L3.length c3) m3)).heap.size ((w5.alloc (.cells #[.string ⟨#[]⟩, .slice none 0 0, .int .i64 0, .int .i64 0, .int .i64 0, .int .i64 0, .int .i64 0, .int .i64 0, .int .i64 0, .int .i64 0, .int .i64 0] 25)).setRow w5.heap.size (profC n3 (.slice A3 L3.length c3) m3)) w' → Kd.C k72 w' A0 L0.length L0) := fun  w' h => HC0_4.out  w' (bb.trans (h.mono bb.size))
  clear HC0_4
  have HC3_1 : Hid (∀  w', Below ((w5.alloc (.cells #[.string ⟨#[]⟩, .slice none 0 0, .int .i64 0, .int .i64 0, .int .i64 0, .int .i64 0, .int .i64 0, .int .i64 0, .int .i64 0, .int .i64 0, .int .i64 0] 25)).setRow w5.heap.size (profC n3 (.slice A3 L3.length c3) m3)).heap.size ((w5.alloc (.cells #[.string ⟨#[]⟩, .slice none 0 0, .int .i64 0, .int .i64 0, .int .i64 0, .int .i64 0, .int .i64 0, .int .i64 0, .int .i64 0, .int .i64 0, .int .i64 0] 25)).setRow w5.heap.size (profC n3 (.slice A3 L3.length c3) m3)) w' → Kd.C k72 w' A3 L3.length L3) := fun  w' h => HC3_0.out  w' (bb.trans (h.mono bb.size))
  clear HC3_0
  clear bb
  go_upto_region 4 with (first | (refine wpList_store_row rfl 25 (.tmp 5) (.tmp 31) rfl _ (profC n3 (.slice A3 L3.length c3) m3) rfl rfl 25 _ H3 (profC_info _ _ _) (by rw [profC_size]; rfl) (profC_one _ _ _ rfl) ?_))
  clear H3 x0_ x1_ xb_
  generalize (w5.alloc (.cells #[.string ⟨#[]⟩, .slice none 0 0, .int .i64 0, .int .i64 0, .int .i64 0, .int .i64 0, .int .i64 0, .int .i64 0, .int .i64 0, .int .i64 0, .int .i64 0] 25)).setRow w5.heap.size (profC n3 (.slice A3 L3.length c3) m3) = w6 at *
  generalize w5.heap.size = q3 at *
  go_wp2_with fail
  refine (HS4.out _).mono ?_; rintro e w7 ⟨A4, c4, rfl, hC4, hc4, b1⟩
  have z0_ := y0_.kept b1 y0_.lt
  have z1_ := y1_.kept b1 y1_.lt
  have z2_ := y2_.kept b1 y2_.lt
  have zb_ := yb_.trans (b1.mono (Nat.le_trans (Nat.le_of_eq HB.out.symm) yb_.size))
  have HC0_6 : Hid (∀  w', Below w7.heap.size w7 w' → Kd.C k72 w' A0 L0.length L0) := fun  w' h => HC0_5.out  w' (b1.trans (h.mono b1.size))
  clear HC0_5
  have HC3_2 : Hid (∀  w', Below w7.heap.size w7 w' → Kd.C k72 w' A3 L3.length L3) := fun  w' h => HC3_1.out  w' (b1.trans (h.mono b1.size))
  clear HC3_1
  clear y0_ y1_ y2_ yb_ b1
  clear hC4 hc4
  have H3 : holdsC (w7.alloc (.cells #[.string ⟨#[]⟩, .slice none 0 0, .int .i64 0, .int .i64 0, .int .i64 0, .int .i64 0, .int .i64 0, .int .i64 0, .int .i64 0, .int .i64 0, .int .i64 0] 25)) w7.heap.size 25 #[.string ⟨#[]⟩, .slice none 0 0, .int .i64 0, .int .i64 0, .int .i64 0, .int .i64 0, .int .i64 0, .int .i64 0, .int .i64 0, .int .i64 0, .int .i64 0] := heap_alloc_new _ _
  have p0_ := (z0_.alloc (.cells #[.string ⟨#[]⟩, .slice none 0 0, .int .i64 0, .int .i64 0, .int .i64 0, .int .i64 0, .int .i64 0, .int .i64 0, .int .i64 0, .int .i64 0, .int .i64 0] 25)).setRowOther (g' := w7.heap.size) (by have := z0_.lt; omega) (profC n4 (.slice A4 L4.length c4) m4)
  have np0_ : q1 < w7.heap.size := z0_.lt
  have p1_ := (z1_.alloc (.cells #[.string ⟨#[]⟩, .slice none 0 0, .int .i64 0, .int .i64 0, .int .i64 0, .int .i64 0, .int .i64 0, .int .i64 0, .int .i64 0, .int .i64 0, .int .i64 0] 25)).setRowOther (g' := w7.heap.size) (by have := z1_.lt; omega) (profC n4 (.slice A4 L4.length c4) m4)
  have np1_ : q2 < w7.heap.size := z1_.lt
  have p2_ := (z2_.alloc (.cells #[.string ⟨#[]⟩, .slice none 0 0, .int .i64 0, .int .i64 0, .int .i64 0, .int .i64 0, .int .i64 0, .int .i64 0, .int .i64 0, .int .i64 0, .int .i64 0] 25)).setRowOther (g' := w7.heap.size) (by have := z2_.lt; omega) (profC n4 (.slice A4 L4.length c4) m4)
  have np2_ : q3 < w7.heap.size := z2_.lt
  have p3_ := holdsC_row H3 (profC n4 (.slice A4 L4.length c4) m4)
  have nq4 : B ≤ w7.heap.size := by rw [← HB.out]; exact zb_.size
  have pb_ := below_setRow (zb_.alloc nq4 (.cells #[.string ⟨#[]⟩, .slice none 0 0, .int .i64 0, .int .i64 0, .int .i64 0, .int .i64 0, .int .i64 0, .int .i64 0, .int .i64 0, .int .i64 0, .int .i64 0] 25)) nq4 (profC n4 (.slice A4 L4.length c4) m4)
  have bb := below_setRow ((Below.refl w7.heap.size w7).alloc (Nat.le_refl _) (.cells #[.string ⟨#[]⟩, .slice none 0 0, .int .i64 0, .int .i64 0, .int .i64 0, .int .i64 0, .int .i64 0, .int .i64 0, .int .i64 0, .int .i64 0, .int .i64 0] 25)) (Nat.le_refl _) (profC n4 (.slice A4 L4.length c4) m4)
  have HC0_7 : Hid (∀  w', Below ((w7.alloc (.cells #[.string ⟨#[]⟩, .slice none 0 0, .int .i64 0, .int .i64 0, .int .i64 0, .int .i64 0, .int .i64 0, .int .i64 0, .int .i64 0, .int .i64 0, .int .i64 0] 25)).setRow w7.heap.size (profC n4 (.slice A4 L4.length c4) m4)).heap.size ((w7.alloc (.cells #[.string ⟨#[]⟩, .slice none 0 0, .int .i64 0, .int .i64 0, .int .i64 0, .int .i64 0, .int .i64 0, .int .i64 0, .int .i64 0, .int .i64 0, .int .i64 0] 25)).setRow w7.heap.size (profC n4 (.slice A4 L4.length c4) m4)) w' → Kd.C k72 w' A0 L0.length L0) := fun  w' h => HC0_6.out  w' (bb.trans (h.mono bb.size))
  clear HC0_6
  have HC3_3 : Hid (∀  w', Below ((w7.alloc (.cells #[.string ⟨#[]⟩, .slice none 0 0, .int .i64 0, .int .i64 0, .int .i64 0, .int .i64 0, .int .i64 0, .int .i64 0, .int .i64 0, .int .i64 0, .int .i64 0] 25)).setRow w7.heap.size (profC n4 (.slice A4 L4.length c4) m4)).heap.size ((w7.alloc (.cells #[.string ⟨#[]⟩, .slice none 0 0, .int .i64 0, .int .i64 0, .int .i64 0, .int .i64 0, .int .i64 0, .int .i64 0, .int .i64 0, .int .i64 0, .int .i64 0] 25)).setRow w7.heap.size (profC n4 (.slice A4 L4.length c4) m4)) w' → Kd.C k72 w' A3 L3.length L3) := fun  w' h => HC3_2.out  w' (bb.trans (h.mono bb.size))
  clear HC3_2
  clear bb
  go_upto_region 5 with (first | (refine wpList_store_row rfl 25 (.tmp 7) (.tmp 35) rfl _ (profC n4 (.slice A4 L4.length c4) m4) rfl rfl 25 _ H3 (profC_info _ _ _) (by rw [profC_size]; rfl) (profC_one _ _ _ rfl) ?_))
  clear H3 z0_ z1_ z2_ zb_
  generalize (w7.alloc (.cells #[.string ⟨#[]⟩, .slice none 0 0, .int .i64 0, .int .i64 0, .int .i64 0, .int .i64 0, .int .i64 0, .int .i64 0, .int .i64 0, .int .i64 0, .int .i64 0] 25)).setRow w7.heap.size (profC n4 (.slice A4 L4.length c4) m4) = w8 at *
  generalize w7.heap.size = q4 at *
  go_wp2_with (refine wpList_load_row rfl 25 (.tmp 1) rfl q1 rfl 25 (profC n0 (.slice A0 L0.length c0) m0) (0, 0) _ p0_ Try.underlying25 rfl (profC_info _ _ _) ?_)
  refine (HE0.out A0 c0 _ (HC0_7.out _ (Below.refl _ _)) hc0).mono ?_; rintro e w9 ⟨rfl, b1⟩
  have q0_ := p0_.kept b1 p0_.lt
  have q1_ := p1_.kept b1 p1_.lt
  have q2_ := p2_.kept b1 p2_.lt
  have q3_ := p3_.kept b1 p3_.lt
  have qb_ := pb_.trans (b1.mono (Nat.le_trans (Nat.le_of_eq HB.out.symm) pb_.size))
  have HC0_8 : Hid (∀  w', Below w9.heap.size w9 w' → Kd.C k72 w' A0 L0.length L0) := fun  w' h => HC0_7.out  w' (b1.trans (h.mono b1.size))
  clear HC0_7
  have HC3_4 : Hid (∀  w', Below w9.heap.size w9 w' → Kd.C k72 w' A3 L3.length L3) := fun  w' h => HC3_3.out  w' (b1.trans (h.mono b1.size))
  clear HC3_3
  clear p0_ p1_ p2_ p3_ pb_ b1
  have H3 : holdsC (w9.alloc (.cells #[.int .i64 0, .int .i64 0, .int .i64 0, .int .i64 0] 35)) w9.heap.size 35 #[.int .i64 0, .int .i64 0, .int .i64 0, .int .i64 0] := heap_alloc_new _ _
  have r0_ := (q0_.alloc (.cells #[.int .i64 0, .int .i64 0, .int .i64 0, .int .i64 0] 35)).setRowOther (g' := w9.heap.size) (by have := q0_.lt; omega) #[.int .i64 65535, .int .i64 0, .int .i64 5, .int .i64 65535]
  have nr0_ : q1 < w9.heap.size := q0_.lt
  have r1_ := (q1_.alloc (.cells #[.int .i64 0, .int .i64 0, .int .i64 0, .int .i64 0] 35)).setRowOther (g' := w9.heap.size) (by have := q1_.lt; omega) #[.int .i64 65535, .int .i64 0, .int .i64 5, .int .i64 65535]
  have nr1_ : q2 < w9.heap.size := q1_.lt
  have r2_ := (q2_.alloc (.cells #[.int .i64 0, .int .i64 0, .int .i64 0, .int .i64 0] 35)).setRowOther (g' := w9.heap.size) (by have := q2_.lt; omega) #[.int .i64 65535, .int .i64 0, .int .i64 5, .int .i64 65535]
  have nr2_ : q3 < w9.heap.size := q2_.lt
  have r3_ := (q3_.alloc (.cells #[.int .i64 0, .int .i64 0, .int .i64 0, .int .i64 0] 35)).setRowOther (g' := w9.heap.size) (by have := q3_.lt; omega) #[.int .i64 65535, .int .i64 0, .int .i64 5, .int .i64 65535]
  have nr3_ : q4 < w9.heap.size := q3_.lt
  have r4_ := holdsC_row H3 #[.int .i64 65535, .int .i64 0, .int .i64 5, .int .i64 65535]
  have nq5 : B ≤ w9.heap.size := by rw [← HB.out]; exact qb_.size
  have rb_ := below_setRow (qb_.alloc nq5 (.cells #[.int .i64 0, .int .i64 0, .int .i64 0, .int .i64 0] 35)) nq5 #[.int .i64 65535, .int .i64 0, .int .i64 5, .int .i64 65535]
  have bb := below_setRow ((Below.refl w9.heap.size w9).alloc (Nat.le_refl _) (.cells #[.int .i64 0, .int .i64 0, .int .i64 0, .int .i64 0] 35)) (Nat.le_refl _) #[.int .i64 65535, .int .i64 0, .int .i64 5, .int .i64 65535]
  have HC0_9 : Hid (∀  w', Below ((w9.alloc (.cells #[.int .i64 0, .int .i64 0, .int .i64 0, .int .i64 0] 35)).setRow w9.heap.size #[.int .i64 65535, .int .i64 0, .int .i64 5, .int .i64 65535]).heap.size ((w9.alloc (.cells #[.int .i64 0, .int .i64 0, .int .i64 0, .int .i64 0] 35)).setRow w9.heap.size #[.int .i64 65535, .int .i64 0, .int .i64 5, .int .i64 65535]) w' → Kd.C k72 w' A0 L0.length L0) := fun  w' h => HC0_8.out  w' (bb.trans (h.mono bb.size))
  clear HC0_8
  have HC3_5 : Hid (∀  w', Below ((w9.alloc (.cells #[.int .i64 0, .int .i64 0, .int .i64 0, .int .i64 0] 35)).setRow w9.heap.size #[.int .i64 65535, .int .i64 0, .int .i64 5, .int .i64 65535]).heap.size ((w9.alloc (.cells #[.int .i64 0, .int .i64 0, .int .i64 0, .int .i64 0] 35)).setRow w9.heap.size #[.int .i64 65535, .int .i64 0, .int .i64 5, .int .i64 65535]) w' → Kd.C k72 w' A3 L3.length L3) := fun  w' h => HC3_4.out  w' (bb.trans (h.mono bb.size))
  clear HC3_4
  clear bb
  go_upto_region 6 with (first | (refine wpList_store_row rfl 35 (.tmp 9) (.tmp 41) rfl _ #[.int .i64 65535, .int .i64 0, .int .i64 5, .int .i64 65535] rfl rfl 35 _ H3 (by kernel_rfl) rfl (by kernel_rfl) ?_))
  clear H3 q0_ q1_ q2_ q3_ qb_
  generalize (w9.alloc (.cells #[.int .i64 0, .int .i64 0, .int .i64 0, .int .i64 0] 35)).setRow w9.heap.size #[.int .i64 65535, .int .i64 0, .int .i64 5, .int .i64 65535] = w10 at *
  generalize w9.heap.size = q5 at *
  go_wp2_with (refine wpList_load_row rfl 25 (.tmp 1) rfl q1 rfl 25 (profC n0 (.slice A0 L0.length c0) m0) (0, 0) _ r0_ Try.underlying25 rfl (profC_info _ _ _) ?_)
  refine (HCO.out A0 c0 _ (HC0_9.out _ (Below.refl _ _)) hc0).mono ?_; rintro e w11 ⟨rfl, b1⟩
  have s0_ := r0_.kept b1 r0_.lt
  have s1_ := r1_.kept b1 r1_.lt
  have s2_ := r2_.kept b1 r2_.lt
  have s3_ := r3_.kept b1 r3_.lt
  have s4_ := r4_.kept b1 r4_.lt
  have sb_ := rb_.trans (b1.mono (Nat.le_trans (Nat.le_of_eq HB.out.symm) rb_.size))
  have HC0_10 : Hid (∀  w', Below w11.heap.size w11 w' → Kd.C k72 w' A0 L0.length L0) := fun  w' h => HC0_9.out  w' (b1.trans (h.mono b1.size))
  clear HC0_9
  have HC3_6 : Hid (∀  w', Below w11.heap.size w11 w' → Kd.C k72 w' A3 L3.length L3) := fun  w' h => HC3_5.out  w' (b1.trans (h.mono b1.size))
  clear HC3_5
  clear r0_ r1_ r2_ r3_ r4_ rb_ b1
  have H3 : holdsC (w11.alloc (.cells #[.int .i64 0, .int .i64 0, .int .i64 0, .int .i64 0] 35)) w11.heap.size 35 #[.int .i64 0, .int .i64 0, .int .i64 0, .int .i64 0] := heap_alloc_new _ _
  have t0_ := (s0_.alloc (.cells #[.int .i64 0, .int .i64 0, .int .i64 0, .int .i64 0] 35)).setRowOther (g' := w11.heap.size) (by have := s0_.lt; omega) #[.int .i64 5, .int .i64 6, .int .i64 7, .int .i64 0]
  have nt0_ : q1 < w11.heap.size := s0_.lt
  have t1_ := (s1_.alloc (.cells #[.int .i64 0, .int .i64 0, .int .i64 0, .int .i64 0] 35)).setRowOther (g' := w11.heap.size) (by have := s1_.lt; omega) #[.int .i64 5, .int .i64 6, .int .i64 7, .int .i64 0]
  have nt1_ : q2 < w11.heap.size := s1_.lt
  have t2_ := (s2_.alloc (.cells #[.int .i64 0, .int .i64 0, .int .i64 0, .int .i64 0] 35)).setRowOther (g' := w11.heap.size) (by have := s2_.lt; omega) #[.int .i64 5, .int .i64 6, .int .i64 7, .int .i64 0]
  have nt2_ : q3 < w11.heap.size := s2_.lt
  have t3_ := (s3_.alloc (.cells #[.int .i64 0, .int .i64 0, .int .i64 0, .int .i64 0] 35)).setRowOther (g' := w11.heap.size) (by have := s3_.lt; omega) #[.int .i64 5, .int .i64 6, .int .i64 7, .int .i64 0]
  have nt3_ : q4 < w11.heap.size := s3_.lt
  have t4_ := (s4_.alloc (.cells #[.int .i64 0, .int .i64 0, .int .i64 0, .int .i64 0] 35)).setRowOther (g' := w11.heap.size) (by have := s4_.lt; omega) #[.int .i64 5, .int .i64 6, .int .i64 7, .int .i64 0]
  have nt4_ : q5 < w11.heap.size := s4_.lt
  have t5_ := holdsC_row H3 #[.int .i64 5, .int .i64 6, .int .i64 7, .int .i64 0]
  have nq6 : B ≤ w11.heap.size := by rw [← HB.out]; exact sb_.size
  have tb_ := below_setRow (sb_.alloc nq6 (.cells #[.int .i64 0, .int .i64 0, .int .i64 0, .int .i64 0] 35)) nq6 #[.int .i64 5, .int .i64 6, .int .i64 7, .int .i64 0]
  have bb := below_setRow ((Below.refl w11.heap.size w11).alloc (Nat.le_refl _) (.cells #[.int .i64 0, .int .i64 0, .int .i64 0, .int .i64 0] 35)) (Nat.le_refl _) #[.int .i64 5, .int .i64 6, .int .i64 7, .int .i64 0]
  have HC0_11 : Hid (∀  w', Below ((w11.alloc (.cells #[.int .i64 0, .int .i64 0, .int .i64 0, .int .i64 0] 35)).setRow w11.heap.size #[.int .i64 5, .int .i64 6, .int .i64 7, .int .i64 0]).heap.size ((w11.alloc (.cells #[.int .i64 0, .int .i64 0, .int .i64 0, .int .i64 0] 35)).setRow w11.heap.size #[.int .i64 5, .int .i64 6, .int .i64 7, .int .i64 0]) w' → Kd.C k72 w' A0 L0.length L0) := fun  w' h => HC0_10.out  w' (bb.trans (h.mono bb.size))
  clear HC0_10
  have HC3_7 : Hid (∀  w', Below ((w11.alloc (.cells #[.int .i64 0, .int .i64 0, .int .i64 0, .int .i64 0] 35)).setRow w11.heap.size #[.int .i64 5, .int .i64 6, .int .i64 7, .int .i64 0]).heap.size ((w11.alloc (.cells #[.int .i64 0, .int .i64 0, .int .i64 0, .int .i64 0] 35)).setRow w11.heap.size #[.int .i64 5, .int .i64 6, .int .i64 7, .int .i64 0]) w' → Kd.C k72 w' A3 L3.length L3) := fun  w' h => HC3_6.out  w' (bb.trans (h.mono bb.size))
  clear HC3_6
  clear bb
  go_upto_region 7 with (first | (refine wpList_store_row rfl 35 (.tmp 11) (.tmp 48) rfl _ #[.int .i64 5, .int .i64 6, .int .i64 7, .int .i64 0] rfl rfl 35 _ H3 (by kernel_rfl) rfl (by kernel_rfl) ?_))
  clear H3 s0_ s1_ s2_ s3_ s4_ sb_
  generalize (w11.alloc (.cells #[.int .i64 0, .int .i64 0, .int .i64 0, .int .i64 0] 35)).setRow w11.heap.size #[.int .i64 5, .int .i64 6, .int .i64 7, .int .i64 0] = w12 at *
  generalize w11.heap.size = q6 at *
  go_wp2_with (first
    | (refine wpList_load_row rfl 25 (.tmp 1) rfl q1 rfl 25 (profC n0 (.slice A0 L0.length c0) m0) (0, 0) _ t0_ Try.underlying25 rfl (profC_info _ _ _) ?_)
    | (refine wpList_load_row rfl 25 (.tmp 5) rfl q3 rfl 25 (profC n3 (.slice A3 L3.length c3) m3) (0, 0) _ t2_ Try.underlying25 rfl (profC_info _ _ _) ?_))
  refine (HCW.out A0 A3 c0 c3 _ (HC0_11.out _ (Below.refl _ _)) hc0 (HC3_7.out _ (Below.refl _ _)) hc3).mono ?_; rintro e w13 ⟨rfl, b1⟩
  have h0_ := t0_.kept b1 t0_.lt
  have h1_ := t1_.kept b1 t1_.lt
  have h2_ := t2_.kept b1 t2_.lt
  have h3_ := t3_.kept b1 t3_.lt
  have h4_ := t4_.kept b1 t4_.lt
  have h5_ := t5_.kept b1 t5_.lt
  have hb_ := tb_.trans (b1.mono (Nat.le_trans (Nat.le_of_eq HB.out.symm) tb_.size))
  have HC0_12 : Hid (∀  w', Below w13.heap.size w13 w' → Kd.C k72 w' A0 L0.length L0) := fun  w' h => HC0_11.out  w' (b1.trans (h.mono b1.size))
  clear HC0_11
  have HC3_8 : Hid (∀  w', Below w13.heap.size w13 w' → Kd.C k72 w' A3 L3.length L3) := fun  w' h => HC3_7.out  w' (b1.trans (h.mono b1.size))
  clear HC3_7
  clear t0_ t1_ t2_ t3_ t4_ t5_ tb_ b1
  have H3 : holdsC (w13.alloc (.cells #[.int .i64 0, .int .i64 0, .int .i64 0, .int .i64 0] 35)) w13.heap.size 35 #[.int .i64 0, .int .i64 0, .int .i64 0, .int .i64 0] := heap_alloc_new _ _
  have g0_ := (h0_.alloc (.cells #[.int .i64 0, .int .i64 0, .int .i64 0, .int .i64 0] 35)).setRowOther (g' := w13.heap.size) (by have := h0_.lt; omega) #[.int .i64 0, .int .i64 0, .int .i64 0, .int .i64 0]
  have ng0_ : q1 < w13.heap.size := h0_.lt
  have g1_ := (h1_.alloc (.cells #[.int .i64 0, .int .i64 0, .int .i64 0, .int .i64 0] 35)).setRowOther (g' := w13.heap.size) (by have := h1_.lt; omega) #[.int .i64 0, .int .i64 0, .int .i64 0, .int .i64 0]
  have ng1_ : q2 < w13.heap.size := h1_.lt
  have g2_ := (h2_.alloc (.cells #[.int .i64 0, .int .i64 0, .int .i64 0, .int .i64 0] 35)).setRowOther (g' := w13.heap.size) (by have := h2_.lt; omega) #[.int .i64 0, .int .i64 0, .int .i64 0, .int .i64 0]
  have ng2_ : q3 < w13.heap.size := h2_.lt
  have g3_ := (h3_.alloc (.cells #[.int .i64 0, .int .i64 0, .int .i64 0, .int .i64 0] 35)).setRowOther (g' := w13.heap.size) (by have := h3_.lt; omega) #[.int .i64 0, .int .i64 0, .int .i64 0, .int .i64 0]
  have ng3_ : q4 < w13.heap.size := h3_.lt
  have g4_ := (h4_.alloc (.cells #[.int .i64 0, .int .i64 0, .int .i64 0, .int .i64 0] 35)).setRowOther (g' := w13.heap.size) (by have := h4_.lt; omega) #[.int .i64 0, .int .i64 0, .int .i64 0, .int .i64 0]
  have ng4_ : q5 < w13.heap.size := h4_.lt
  have g5_ := (h5_.alloc (.cells #[.int .i64 0, .int .i64 0, .int .i64 0, .int .i64 0] 35)).setRowOther (g' := w13.heap.size) (by have := h5_.lt; omega) #[.int .i64 0, .int .i64 0, .int .i64 0, .int .i64 0]
  have ng5_ : q6 < w13.heap.size := h5_.lt
  have g6_ := holdsC_row H3 #[.int .i64 0, .int .i64 0, .int .i64 0, .int .i64 0]
  have nq7 : B ≤ w13.heap.size := by rw [← HB.out]; exact hb_.size
  have gb_ := below_setRow (hb_.alloc nq7 (.cells #[.int .i64 0, .int .i64 0, .int .i64 0, .int .i64 0] 35)) nq7 #[.int .i64 0, .int .i64 0, .int .i64 0, .int .i64 0]
  have bb := below_setRow ((Below.refl w13.heap.size w13).alloc (Nat.le_refl _) (.cells #[.int .i64 0, .int .i64 0, .int .i64 0, .int .i64 0] 35)) (Nat.le_refl _) #[.int .i64 0, .int .i64 0, .int .i64 0, .int .i64 0]
  have HC0_13 : Hid (∀  w', Below ((w13.alloc (.cells #[.int .i64 0, .int .i64 0, .int .i64 0, .int .i64 0] 35)).setRow w13.heap.size #[.int .i64 0, .int .i64 0, .int .i64 0, .int .i64 0]).heap.size ((w13.alloc (.cells #[.int .i64 0, .int .i64 0, .int .i64 0, .int .i64 0] 35)).setRow w13.heap.size #[.int .i64 0, .int .i64 0, .int .i64 0, .int .i64 0]) w' → Kd.C k72 w' A0 L0.length L0) := fun  w' h => HC0_12.out  w' (bb.trans (h.mono bb.size))
  clear HC0_12
  have HC3_9 : Hid (∀  w', Below ((w13.alloc (.cells #[.int .i64 0, .int .i64 0, .int .i64 0, .int .i64 0] 35)).setRow w13.heap.size #[.int .i64 0, .int .i64 0, .int .i64 0, .int .i64 0]).heap.size ((w13.alloc (.cells #[.int .i64 0, .int .i64 0, .int .i64 0, .int .i64 0] 35)).setRow w13.heap.size #[.int .i64 0, .int .i64 0, .int .i64 0, .int .i64 0]) w' → Kd.C k72 w' A3 L3.length L3) := fun  w' h => HC3_8.out  w' (bb.trans (h.mono bb.size))
  clear HC3_8
  clear bb
  go_upto_region 8 with (first | (refine wpList_store_row rfl 35 (.tmp 13) (.tmp 55) rfl _ #[.int .i64 0, .int .i64 0, .int .i64 0, .int .i64 0] rfl rfl 35 _ H3 (by kernel_rfl) rfl (by kernel_rfl) ?_))
  clear H3 h0_ h1_ h2_ h3_ h4_ h5_ hb_
  generalize (w13.alloc (.cells #[.int .i64 0, .int .i64 0, .int .i64 0, .int .i64 0] 35)).setRow w13.heap.size #[.int .i64 0, .int .i64 0, .int .i64 0, .int .i64 0] = w14 at *
  generalize w13.heap.size = q7 at *
  go_wp2_with (refine wpList_load_row rfl 25 (.tmp 1) rfl q1 rfl 25 (profC n0 (.slice A0 L0.length c0) m0) (0, 0) _ g0_ Try.underlying25 rfl (profC_info _ _ _) ?_)
  refine (HBY.out A0 c0 _ (HC0_13.out _ (Below.refl _ _)) hc0).mono ?_; rintro e w15 ⟨rfl, b1⟩
  have k0_ := g0_.kept b1 g0_.lt
  have k1_ := g1_.kept b1 g1_.lt
  have k2_ := g2_.kept b1 g2_.lt
  have k3_ := g3_.kept b1 g3_.lt
  have k4_ := g4_.kept b1 g4_.lt
  have k5_ := g5_.kept b1 g5_.lt
  have k6_ := g6_.kept b1 g6_.lt
  have kb_ := gb_.trans (b1.mono (Nat.le_trans (Nat.le_of_eq HB.out.symm) gb_.size))
  have HC0_14 : Hid (∀  w', Below w15.heap.size w15 w' → Kd.C k72 w' A0 L0.length L0) := fun  w' h => HC0_13.out  w' (b1.trans (h.mono b1.size))
  clear HC0_13
  have HC3_10 : Hid (∀  w', Below w15.heap.size w15 w' → Kd.C k72 w' A3 L3.length L3) := fun  w' h => HC3_9.out  w' (b1.trans (h.mono b1.size))
  clear HC3_9
  clear g0_ g1_ g2_ g3_ g4_ g5_ g6_ gb_ b1
  go_wp2_with fail
  clear hy2
  refine (HPA.out _).mono ?_; rintro e w16 ⟨pn1, P1, pl1, d1, pm1, rfl, b1⟩
  have u0_ := k0_.kept b1 k0_.lt
  have u1_ := k1_.kept b1 k1_.lt
  have u2_ := k2_.kept b1 k2_.lt
  have u3_ := k3_.kept b1 k3_.lt
  have u4_ := k4_.kept b1 k4_.lt
  have u5_ := k5_.kept b1 k5_.lt
  have u6_ := k6_.kept b1 k6_.lt
  have ub_ := kb_.trans (b1.mono (Nat.le_trans (Nat.le_of_eq HB.out.symm) kb_.size))
  have HC0_15 : Hid (∀  w', Below w16.heap.size w16 w' → Kd.C k72 w' A0 L0.length L0) := fun  w' h => HC0_14.out  w' (b1.trans (h.mono b1.size))
  clear HC0_14
  have HC3_11 : Hid (∀  w', Below w16.heap.size w16 w' → Kd.C k72 w' A3 L3.length L3) := fun  w' h => HC3_10.out  w' (b1.trans (h.mono b1.size))
  clear HC3_10
  clear k0_ k1_ k2_ k3_ k4_ k5_ k6_ kb_ b1
  have H3 : holdsC (w16.alloc (.cells #[.string ⟨#[]⟩, .slice none 0 0, .int .i64 0, .int .i64 0, .int .i64 0, .int .i64 0, .int .i64 0, .int .i64 0, .int .i64 0, .int .i64 0, .int .i64 0] 25)) w16.heap.size 25 #[.string ⟨#[]⟩, .slice none 0 0, .int .i64 0, .int .i64 0, .int .i64 0, .int .i64 0, .int .i64 0, .int .i64 0, .int .i64 0, .int .i64 0, .int .i64 0] := heap_alloc_new _ _
  have v0_ := (u0_.alloc (.cells #[.string ⟨#[]⟩, .slice none 0 0, .int .i64 0, .int .i64 0, .int .i64 0, .int .i64 0, .int .i64 0, .int .i64 0, .int .i64 0, .int .i64 0, .int .i64 0] 25)).setRowOther (g' := w16.heap.size) (by have := u0_.lt; omega) (profC pn1 (.slice P1 pl1 d1) pm1)
  have nv0_ : q1 < w16.heap.size := u0_.lt
  have v1_ := (u1_.alloc (.cells #[.string ⟨#[]⟩, .slice none 0 0, .int .i64 0, .int .i64 0, .int .i64 0, .int .i64 0, .int .i64 0, .int .i64 0, .int .i64 0, .int .i64 0, .int .i64 0] 25)).setRowOther (g' := w16.heap.size) (by have := u1_.lt; omega) (profC pn1 (.slice P1 pl1 d1) pm1)
  have nv1_ : q2 < w16.heap.size := u1_.lt
  have v2_ := (u2_.alloc (.cells #[.string ⟨#[]⟩, .slice none 0 0, .int .i64 0, .int .i64 0, .int .i64 0, .int .i64 0, .int .i64 0, .int .i64 0, .int .i64 0, .int .i64 0, .int .i64 0] 25)).setRowOther (g' := w16.heap.size) (by have := u2_.lt; omega) (profC pn1 (.slice P1 pl1 d1) pm1)
  have nv2_ : q3 < w16.heap.size := u2_.lt
  have v3_ := (u3_.alloc (.cells #[.string ⟨#[]⟩, .slice none 0 0, .int .i64 0, .int .i64 0, .int .i64 0, .int .i64 0, .int .i64 0, .int .i64 0, .int .i64 0, .int .i64 0, .int .i64 0] 25)).setRowOther (g' := w16.heap.size) (by have := u3_.lt; omega) (profC pn1 (.slice P1 pl1 d1) pm1)
  have nv3_ : q4 < w16.heap.size := u3_.lt
  have v4_ := (u4_.alloc (.cells #[.string ⟨#[]⟩, .slice none 0 0, .int .i64 0, .int .i64 0, .int .i64 0, .int .i64 0, .int .i64 0, .int .i64 0, .int .i64 0, .int .i64 0, .int .i64 0] 25)).setRowOther (g' := w16.heap.size) (by have := u4_.lt; omega) (profC pn1 (.slice P1 pl1 d1) pm1)
  have nv4_ : q5 < w16.heap.size := u4_.lt
  have v5_ := (u5_.alloc (.cells #[.string ⟨#[]⟩, .slice none 0 0, .int .i64 0, .int .i64 0, .int .i64 0, .int .i64 0, .int .i64 0, .int .i64 0, .int .i64 0, .int .i64 0, .int .i64 0] 25)).setRowOther (g' := w16.heap.size) (by have := u5_.lt; omega) (profC pn1 (.slice P1 pl1 d1) pm1)
  have nv5_ : q6 < w16.heap.size := u5_.lt
  have v6_ := (u6_.alloc (.cells #[.string ⟨#[]⟩, .slice none 0 0, .int .i64 0, .int .i64 0, .int .i64 0, .int .i64 0, .int .i64 0, .int .i64 0, .int .i64 0, .int .i64 0, .int .i64 0] 25)).setRowOther (g' := w16.heap.size) (by have := u6_.lt; omega) (profC pn1 (.slice P1 pl1 d1) pm1)
  have nv6_ : q7 < w16.heap.size := u6_.lt
  have v7_ := holdsC_row H3 (profC pn1 (.slice P1 pl1 d1) pm1)
  have nq8 : B ≤ w16.heap.size := by rw [← HB.out]; exact ub_.size
  have vb_ := below_setRow (ub_.alloc nq8 (.cells #[.string ⟨#[]⟩, .slice none 0 0, .int .i64 0, .int .i64 0, .int .i64 0, .int .i64 0, .int .i64 0, .int .i64 0, .int .i64 0, .int .i64 0, .int .i64 0] 25)) nq8 (profC pn1 (.slice P1 pl1 d1) pm1)
  have bb := below_setRow ((Below.refl w16.heap.size w16).alloc (Nat.le_refl _) (.cells #[.string ⟨#[]⟩, .slice none 0 0, .int .i64 0, .int .i64 0, .int .i64 0, .int .i64 0, .int .i64 0, .int .i64 0, .int .i64 0, .int .i64 0, .int .i64 0] 25)) (Nat.le_refl _) (profC pn1 (.slice P1 pl1 d1) pm1)
  have HC0_16 : Hid (∀  w', Below ((w16.alloc (.cells #[.string ⟨#[]⟩, .slice none 0 0, .int .i64 0, .int .i64 0, .int .i64 0, .int .i64 0, .int .i64 0, .int .i64 0, .int .i64 0, .int .i64 0, .int .i64 0] 25)).setRow w16.heap.size (profC pn1 (.slice P1 pl1 d1) pm1)).heap.size ((w16.alloc (.cells #[.string ⟨#[]⟩, .slice none 0 0, .int .i64 0, .int .i64 0, .int .i64 0, .int .i64 0, .int .i64 0, .int .i64 0, .int .i64 0, .int .i64 0, .int .i64 0] 25)).setRow w16.heap.size (profC pn1 (.slice P1 pl1 d1) pm1)) w' → Kd.C k72 w' A0 L0.length L0) := fun  w' h => HC0_15.out  w' (bb.trans (h.mono bb.size))
  clear HC0_15
  have HC3_12 : Hid (∀  w', Below ((w16.alloc (.cells #[.string ⟨#[]⟩, .slice none 0 0, .int .i64 0, .int .i64 0, .int .i64 0, .int .i64 0, .int .i64 0, .int .i64 0, .int .i64 0, .int .i64 0, .int .i64 0] 25)).setRow w16.heap.size (profC pn1 (.slice P1 pl1 d1) pm1)).heap.size ((w16.alloc (.cells #[.string ⟨#[]⟩, .slice none 0 0, .int .i64 0, .int .i64 0, .int .i64 0, .int .i64 0, .int .i64 0, .int .i64 0, .int .i64 0, .int .i64 0, .int .i64 0] 25)).setRow w16.heap.size (profC pn1 (.slice P1 pl1 d1) pm1)) w' → Kd.C k72 w' A3 L3.length L3) := fun  w' h => HC3_11.out  w' (bb.trans (h.mono bb.size))
  clear HC3_11
  clear bb
  go_upto_region 10 with (first | (refine wpList_store_row rfl 25 (.tmp 17) (.tmp 66) rfl _ (profC pn1 (.slice P1 pl1 d1) pm1) rfl rfl 25 _ H3 (profC_info _ _ _) (by rw [profC_size]; rfl) (profC_one _ _ _ rfl) ?_))
  clear H3 u0_ u1_ u2_ u3_ u4_ u5_ u6_ ub_
  generalize (w16.alloc (.cells #[.string ⟨#[]⟩, .slice none 0 0, .int .i64 0, .int .i64 0, .int .i64 0, .int .i64 0, .int .i64 0, .int .i64 0, .int .i64 0, .int .i64 0, .int .i64 0] 25)).setRow w16.heap.size (profC pn1 (.slice P1 pl1 d1) pm1) = w17 at *
  generalize w16.heap.size = q8 at *
  go_wp2_with fail
  refine (HPB.out _).mono ?_; rintro e w18 ⟨pn2, P2, pl2, d2, pm2, rfl, b1⟩
  have x0_ := v0_.kept b1 v0_.lt
  have x1_ := v1_.kept b1 v1_.lt
  have x2_ := v2_.kept b1 v2_.lt
  have x3_ := v3_.kept b1 v3_.lt
  have x4_ := v4_.kept b1 v4_.lt
  have x5_ := v5_.kept b1 v5_.lt
  have x6_ := v6_.kept b1 v6_.lt
  have x7_ := v7_.kept b1 v7_.lt
  have xb_ := vb_.trans (b1.mono (Nat.le_trans (Nat.le_of_eq HB.out.symm) vb_.size))
  have HC0_17 : Hid (∀  w', Below w18.heap.size w18 w' → Kd.C k72 w' A0 L0.length L0) := fun  w' h => HC0_16.out  w' (b1.trans (h.mono b1.size))
  clear HC0_16
  have HC3_13 : Hid (∀  w', Below w18.heap.size w18 w' → Kd.C k72 w' A3 L3.length L3) := fun  w' h => HC3_12.out  w' (b1.trans (h.mono b1.size))
  clear HC3_12
  clear v0_ v1_ v2_ v3_ v4_ v5_ v6_ v7_ vb_ b1
  have H3 : holdsC (w18.alloc (.cells #[.string ⟨#[]⟩, .slice none 0 0, .int .i64 0, .int .i64 0, .int .i64 0, .int .i64 0, .int .i64 0, .int .i64 0, .int .i64 0, .int .i64 0, .int .i64 0] 25)) w18.heap.size 25 #[.string ⟨#[]⟩, .slice none 0 0, .int .i64 0, .int .i64 0, .int .i64 0, .int .i64 0, .int .i64 0, .int .i64 0, .int .i64 0, .int .i64 0, .int .i64 0] := heap_alloc_new _ _
  have y0_ := (x0_.alloc (.cells #[.string ⟨#[]⟩, .slice none 0 0, .int .i64 0, .int .i64 0, .int .i64 0, .int .i64 0, .int .i64 0, .int .i64 0, .int .i64 0, .int .i64 0, .int .i64 0] 25)).setRowOther (g' := w18.heap.size) (by have := x0_.lt; omega) (profC pn2 (.slice P2 pl2 d2) pm2)
  have ny0_ : q1 < w18.heap.size := x0_.lt
  have y1_ := (x1_.alloc (.cells #[.string ⟨#[]⟩, .slice none 0 0, .int .i64 0, .int .i64 0, .int .i64 0, .int .i64 0, .int .i64 0, .int .i64 0, .int .i64 0, .int .i64 0, .int .i64 0] 25)).setRowOther (g' := w18.heap.size) (by have := x1_.lt; omega) (profC pn2 (.slice P2 pl2 d2) pm2)
  have ny1_ : q2 < w18.heap.size := x1_.lt
  have y2_ := (x2_.alloc (.cells #[.string ⟨#[]⟩, .slice none 0 0, .int .i64 0, .int .i64 0, .int .i64 0, .int .i64 0, .int .i64 0, .int .i64 0, .int .i64 0, .int .i64 0, .int .i64 0] 25)).setRowOther (g' := w18.heap.size) (by have := x2_.lt; omega) (profC pn2 (.slice P2 pl2 d2) pm2)
  have ny2_ : q3 < w18.heap.size := x2_.lt
  have y3_ := (x3_.alloc (.cells #[.string ⟨#[]⟩, .slice none 0 0, .int .i64 0, .int .i64 0, .int .i64 0, .int .i64 0, .int .i64 0, .int .i64 0, .int .i64 0, .int .i64 0, .int .i64 0] 25)).setRowOther (g' := w18.heap.size) (by have := x3_.lt; omega) (profC pn2 (.slice P2 pl2 d2) pm2)
  have ny3_ : q4 < w18.heap.size := x3_.lt
  have y4_ := (x4_.alloc (.cells #[.string ⟨#[]⟩, .slice none 0 0, .int .i64 0, .int .i64 0, .int .i64 0, .int .i64 0, .int .i64 0, .int .i64 0, .int .i64 0, .int .i64 0, .int .i64 0] 25)).setRowOther (g' := w18.heap.size) (by have := x4_.lt; omega) (profC pn2 (.slice P2 pl2 d2) pm2)
  have ny4_ : q5 < w18.heap.size := x4_.lt
  have y5_ := (x5_.alloc (.cells #[.string ⟨#[]⟩, .slice none 0 0, .int .i64 0, .int .i64 0, .int .i64 0, .int .i64 0, .int .i64 0, .int .i64 0, .int .i64 0, .int .i64 0, .int .i64 0] 25)).setRowOther (g' := w18.heap.size) (by have := x5_.lt; omega) (profC pn2 (.slice P2 pl2 d2) pm2)
  have ny5_ : q6 < w18.heap.size := x5_.lt
  have y6_ := (x6_.alloc (.cells #[.string ⟨#[]⟩, .slice none 0 0, .int .i64 0, .int .i64 0, .int .i64 0, .int .i64 0, .int .i64 0, .int .i64 0, .int .i64 0, .int .i64 0, .int .i64 0] 25)).setRowOther (g' := w18.heap.size) (by have := x6_.lt; omega) (profC pn2 (.slice P2 pl2 d2) pm2)
  have ny6_ : q7 < w18.heap.size := x6_.lt
  have y7_ := (x7_.alloc (.cells #[.string ⟨#[]⟩, .slice none 0 0, .int .i64 0, .int .i64 0, .int .i64 0, .int .i64 0, .int .i64 0, .int .i64 0, .int .i64 0, .int .i64 0, .int .i64 0] 25)).setRowOther (g' := w18.heap.size) (by have := x7_.lt; omega) (profC pn2 (.slice P2 pl2 d2) pm2)
  have ny7_ : q8 < w18.heap.size := x7_.lt
  have y8_ := holdsC_row H3 (profC pn2 (.slice P2 pl2 d2) pm2)
  have nq9 : B ≤ w18.heap.size := by rw [← HB.out]; exact xb_.size
  have yb_ := below_setRow (xb_.alloc nq9 (.cells #[.string ⟨#[]⟩, .slice none 0 0, .int .i64 0, .int .i64 0, .int .i64 0, .int .i64 0, .int .i64 0, .int .i64 0, .int .i64 0, .int .i64 0, .int .i64 0] 25)) nq9 (profC pn2 (.slice P2 pl2 d2) pm2)
  have bb := below_setRow ((Below.refl w18.heap.size w18).alloc (Nat.le_refl _) (.cells #[.string ⟨#[]⟩, .slice none 0 0, .int .i64 0, .int .i64 0, .int .i64 0, .int .i64 0, .int .i64 0, .int .i64 0, .int .i64 0, .int .i64 0, .int .i64 0] 25)) (Nat.le_refl _) (profC pn2 (.slice P2 pl2 d2) pm2)
  have HC0_18 : Hid (∀  w', Below ((w18.alloc (.cells #[.string ⟨#[]⟩, .slice none 0 0, .int .i64 0, .int .i64 0, .int .i64 0, .int .i64 0, .int .i64 0, .int .i64 0, .int .i64 0, .int .i64 0, .int .i64 0] 25)).setRow w18.heap.size (profC pn2 (.slice P2 pl2 d2) pm2)).heap.size ((w18.alloc (.cells #[.string ⟨#[]⟩, .slice none 0 0, .int .i64 0, .int .i64 0, .int .i64 0, .int .i64 0, .int .i64 0, .int .i64 0, .int .i64 0, .int .i64 0, .int .i64 0] 25)).setRow w18.heap.size (profC pn2 (.slice P2 pl2 d2) pm2)) w' → Kd.C k72 w' A0 L0.length L0) := fun  w' h => HC0_17.out  w' (bb.trans (h.mono bb.size))
  clear HC0_17
  have HC3_14 : Hid (∀  w', Below ((w18.alloc (.cells #[.string ⟨#[]⟩, .slice none 0 0, .int .i64 0, .int .i64 0, .int .i64 0, .int .i64 0, .int .i64 0, .int .i64 0, .int .i64 0, .int .i64 0, .int .i64 0] 25)).setRow w18.heap.size (profC pn2 (.slice P2 pl2 d2) pm2)).heap.size ((w18.alloc (.cells #[.string ⟨#[]⟩, .slice none 0 0, .int .i64 0, .int .i64 0, .int .i64 0, .int .i64 0, .int .i64 0, .int .i64 0, .int .i64 0, .int .i64 0, .int .i64 0] 25)).setRow w18.heap.size (profC pn2 (.slice P2 pl2 d2) pm2)) w' → Kd.C k72 w' A3 L3.length L3) := fun  w' h => HC3_13.out  w' (bb.trans (h.mono bb.size))
  clear HC3_13
  clear bb
  go_upto_region 11 with (first | (refine wpList_store_row rfl 25 (.tmp 19) (.tmp 70) rfl _ (profC pn2 (.slice P2 pl2 d2) pm2) rfl rfl 25 _ H3 (profC_info _ _ _) (by rw [profC_size]; rfl) (profC_one _ _ _ rfl) ?_))
  clear H3 x0_ x1_ x2_ x3_ x4_ x5_ x6_ x7_ xb_
  generalize (w18.alloc (.cells #[.string ⟨#[]⟩, .slice none 0 0, .int .i64 0, .int .i64 0, .int .i64 0, .int .i64 0, .int .i64 0, .int .i64 0, .int .i64 0, .int .i64 0, .int .i64 0] 25)).setRow w18.heap.size (profC pn2 (.slice P2 pl2 d2) pm2) = w19 at *
  generalize w18.heap.size = q9 at *
  simp only [List.append_eq, List.cons_append, List.nil_append]
  go_wp2_with fail
  refine (aw_count _).mono ?_; rintro e w20 ⟨rfl, b1⟩
  have z0_ := y0_.kept b1 y0_.lt
  have z1_ := y1_.kept b1 y1_.lt
  have z2_ := y2_.kept b1 y2_.lt
  have z3_ := y3_.kept b1 y3_.lt
  have z4_ := y4_.kept b1 y4_.lt
  have z5_ := y5_.kept b1 y5_.lt
  have z6_ := y6_.kept b1 y6_.lt
  have z7_ := y7_.kept b1 y7_.lt
  have z8_ := y8_.kept b1 y8_.lt
  have zb_ := yb_.trans (b1.mono (Nat.le_trans (Nat.le_of_eq HB.out.symm) yb_.size))
  have HC0_19 : Hid (∀  w', Below w20.heap.size w20 w' → Kd.C k72 w' A0 L0.length L0) := fun  w' h => HC0_18.out  w' (b1.trans (h.mono b1.size))
  clear HC0_18
  have HC3_15 : Hid (∀  w', Below w20.heap.size w20 w' → Kd.C k72 w' A3 L3.length L3) := fun  w' h => HC3_14.out  w' (b1.trans (h.mono b1.size))
  clear HC3_14
  clear y0_ y1_ y2_ y3_ y4_ y5_ y6_ y7_ y8_ yb_ b1
  have c1_ := z0_.cell 0 (.string n0) (profC_0 _ _ _)
  have c2_ := z1_.cell 0 (.string n1) (profC_0 _ _ _)
  have c3_ := z2_.cell 0 (.string n3) (profC_0 _ _ _)
  have na0 := HNA0.out
  have na1 := HNA1.out
  have na3 := HNA3.out
  go_wp2_with (refine wpList_load_g 106 rfl (by first | rfl | kernel_rfl) 25 (.tmp 5) rfl rfl z2_ Try.underlying25 rfl (profC_info _ _ _) ?_)
  clear c1_ c2_ c3_ na0 na1 na3
  refine (HLIN.out A3 c3 _ (HC3_15.out _ (Below.refl _ _)) hc3).mono ?_; rintro e w21 ⟨rfl, b1⟩
  have p0_ := z0_.kept b1 z0_.lt
  have p1_ := z1_.kept b1 z1_.lt
  have p2_ := z2_.kept b1 z2_.lt
  have p3_ := z3_.kept b1 z3_.lt
  have p4_ := z4_.kept b1 z4_.lt
  have p5_ := z5_.kept b1 z5_.lt
  have p6_ := z6_.kept b1 z6_.lt
  have p7_ := z7_.kept b1 z7_.lt
  have p8_ := z8_.kept b1 z8_.lt
  have pb_ := zb_.trans (b1.mono (Nat.le_trans (Nat.le_of_eq HB.out.symm) zb_.size))
  have HC0_20 : Hid (∀  w', Below w21.heap.size w21 w' → Kd.C k72 w' A0 L0.length L0) := fun  w' h => HC0_19.out  w' (b1.trans (h.mono b1.size))
  clear HC0_19
  have HC3_16 : Hid (∀  w', Below w21.heap.size w21 w' → Kd.C k72 w' A3 L3.length L3) := fun  w' h => HC3_15.out  w' (b1.trans (h.mono b1.size))
  clear HC3_15
  clear z0_ z1_ z2_ z3_ z4_ z5_ z6_ z7_ z8_ zb_ b1
  have hs31 : ((bs.size : Int) == 31) = true := by rw [HYS.out]; rfl
  have he3 : eqN 3 vecL vecL = true := by decide
  go_wp2_with (first
    | (refine wpList_build_g 109 rfl (by first | rfl | kernel_rfl) 47 _ rfl (arrN 3 vecL) (by kernel_rfl) ?_)
    | (refine wpList_load_g 113 rfl (by first | rfl | kernel_rfl) 35 (.tmp 9) rfl rfl p4_ Try.underlying35 rfl (by kernel_rfl) ?_)
    | (refine wpList_load_g 122 rfl (by first | rfl | kernel_rfl) 35 (.tmp 11) rfl rfl p5_ Try.underlying35 rfl (by kernel_rfl) ?_)
    | (refine wpList_load_g 131 rfl (by first | rfl | kernel_rfl) 35 (.tmp 13) rfl rfl p6_ Try.underlying35 rfl (by kernel_rfl) ?_)
    | (refine wpList_build_g 157 rfl rfl 25 _ rfl (profC ⟨#[]⟩ (.slice none 0 0) (fun _ => 0)) (by kernel_rfl) ?_))
  refine (HK1.out _).mono ?_; rintro e w22 ⟨rfl, b1⟩
  have q0_ := p0_.kept b1 p0_.lt
  have q1_ := p1_.kept b1 p1_.lt
  have q2_ := p2_.kept b1 p2_.lt
  have q3_ := p3_.kept b1 p3_.lt
  have q4_ := p4_.kept b1 p4_.lt
  have q5_ := p5_.kept b1 p5_.lt
  have q6_ := p6_.kept b1 p6_.lt
  have q7_ := p7_.kept b1 p7_.lt
  have q8_ := p8_.kept b1 p8_.lt
  have qb_ := pb_.trans (b1.mono (Nat.le_trans (Nat.le_of_eq HB.out.symm) pb_.size))
  have HC0_21 : Hid (∀  w', Below w22.heap.size w22 w' → Kd.C k72 w' A0 L0.length L0) := fun  w' h => HC0_20.out  w' (b1.trans (h.mono b1.size))
  clear HC0_20
  have HC3_17 : Hid (∀  w', Below w22.heap.size w22 w' → Kd.C k72 w' A3 L3.length L3) := fun  w' h => HC3_16.out  w' (b1.trans (h.mono b1.size))
  clear HC3_16
  clear p0_ p1_ p2_ p3_ p4_ p5_ p6_ p7_ p8_ pb_ b1
  go_wp2_with (refine wpList_build_g 162 rfl rfl 25 _ rfl (profC ⟨#[120]⟩ (.slice none 0 0) (fun _ => 0)) (by kernel_rfl) ?_)
  refine (HK2.out _).mono ?_; rintro e w23 ⟨rfl, b1⟩
  have r0_ := q0_.kept b1 q0_.lt
  have r1_ := q1_.kept b1 q1_.lt
  have r2_ := q2_.kept b1 q2_.lt
  have r3_ := q3_.kept b1 q3_.lt
  have r4_ := q4_.kept b1 q4_.lt
  have r5_ := q5_.kept b1 q5_.lt
  have r6_ := q6_.kept b1 q6_.lt
  have r7_ := q7_.kept b1 q7_.lt
  have r8_ := q8_.kept b1 q8_.lt
  have rb_ := qb_.trans (b1.mono (Nat.le_trans (Nat.le_of_eq HB.out.symm) qb_.size))
  have HC0_22 : Hid (∀  w', Below w23.heap.size w23 w' → Kd.C k72 w' A0 L0.length L0) := fun  w' h => HC0_21.out  w' (b1.trans (h.mono b1.size))
  clear HC0_21
  have HC3_18 : Hid (∀  w', Below w23.heap.size w23 w' → Kd.C k72 w' A3 L3.length L3) := fun  w' h => HC3_17.out  w' (b1.trans (h.mono b1.size))
  clear HC3_17
  clear q0_ q1_ q2_ q3_ q4_ q5_ q6_ q7_ q8_ qb_ b1
  go_wp2
  go_ret
  exact ⟨rfl, rb_⟩
end Go.Proofs.Ytlpfepcmpccbeaa.Aw
