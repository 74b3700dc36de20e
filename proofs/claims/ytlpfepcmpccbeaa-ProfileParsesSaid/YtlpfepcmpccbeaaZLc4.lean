import Derived.Test.YtlpfepcmpccbeaaZV
import Derived.Test.YtlpfepcmpccbeaaZLc5
/-
  The law ProfileChecks: its walk.
-/
namespace Go.Proofs.Ytlpfepcmpccbeaa.Lw
open Go.RowKit Go.Proofs.Ytlpfepcmpccbeaa.NM Go.Proofs.Ytlpfepcmpccbeaa.Cv Go.Proofs.Ytlpfepcmpccbeaa.Wi Go.Proofs.Ytlpfepcmpccbeaa.Nm9 Go.Proofs.Ytlpfepcmpccbeaa.Mx Go.Proofs.Ytlpfepcmpccbeaa.Pf Go.Proofs.Ytlpfepcmpccbeaa.Pt Go.Proofs.Ytlpfepcmpccbeaa.Aw Go.Proofs.Ytlpfepcmpccbeaa.PNum Go.Proofs.YtlpfepcmpccbeaaW.PrintWords Go.Proofs.YtlpfepcmpccbeaaW.PrintMore Go.Proofs.YtlpfepcmpccbeaaW.PrintLast
attribute [local go_sem] eq9 eq3 eg9 eg3
attribute [local go_sem high] eqA35
set_option linter.unusedVariables false
theorem exec_eqI {o : Oper} {a : Act} {w : World} {x y : Operand} {n : Int} (ho : o.op = .binOp .eql 3 x y 3) (hx : a.eval x = .int .i64 n) (hy : a.eval y = .int .i64 n) : (execOp a.eval o).run Try.prog w = .ok (.value (.bool true)) w := by
  unfold execOp
  rw [ho]
  simp only [hx, hy]
  go_simp
theorem exec_eqS {o : Oper} {a : Act} {w : World} {x y : Operand} {s : ByteArray} (ho : o.op = .binOp .eql 9 x y 9) (hx : a.eval x = .string s) (hy : a.eval y = .string s) : (execOp a.eval o).run Try.prog w = .ok (.value (.bool true)) w := by
  unfold execOp
  rw [ho]
  simp only [hx, hy]
  go_simp
theorem profSame_self (nm : ByteArray) (l : List Kn) (m : Nat → Int) : profSame nm l m nm l m = true := by
  unfold profSame
  rw [eqN_self, if_pos (by simp), if_pos rfl, sameK_refl]
theorem same_true (nm : ByteArray) (l : List Kn) (m : Nat → Int) (A A' : Option Addr) (c c' : Nat) (w : World) (hl : l.length ≤ 140737488355232) (h : Kd.C k72 w A l.length l) (h' : Kd.C k72 w A' l.length l) :
    Calls Try.prog 21 #[.agg (profC nm (.slice A l.length c) m), .agg (profC nm (.slice A' l.length c') m)] w fun e w' => e = .returned (.bool true) ∧ Below w.heap.size w w' := by
  have := rsame_any nm A c l m nm A' c' l m w hl h h'
  rwa [profSame_self] at this
theorem std_len (i : Int) : (pairsK (stdI i)).length ≤ 140737488355232 := by
  rw [pairsK_length]
  have : (stdI i).length ≤ 24 := by
    unfold stdI
    by_cases h0 : i = 0
    · rw [if_pos h0]; decide
    · rw [if_neg h0]
      by_cases h1 : i = 1
      · rw [if_pos h1]; decide
      · rw [if_neg h1]
        by_cases h2 : i = 2
        · rw [if_pos h2]; decide
        · rw [if_neg h2]
          by_cases h3 : i = 3
          · rw [if_pos h3]; decide
          · rw [if_neg h3]; decide
  omega
set_option maxRecDepth 20000 in
set_option maxHeartbeats 2000000 in
theorem checks_true (nm : ByteArray) (A : Option Addr) (c : Nat) (l : List Kn) (m : Nat → Int) (i : Int) (w : World) (hs : nm.size ≤ 140737488355232) (hr : Kd.C k72 w A l.length l) (hc : l.length ≤ c) :
    Calls Try.prog 4 #[.agg (profC nm (.slice A l.length c) m), .int .i64 i] w fun e w' => e = .returned (.bool true) ∧ Below w.heap.size w w' := by
  have HY1 : Hid (∀ w', Below w.heap.size w w' → Calls Try.prog 17 #[.agg (profC nm (.slice A l.length c) m)] w' fun e w'' => e = .returned (.tuple #[.string (bytesP nm l m), .int .i64 (profCheck nm l m)]) ∧ Below w'.heap.size w' w'') := fun w' hb => pBytes_any nm A c l m w' hs (Kd.C_below hr hb) hc
  have HY2 : Hid (∀ w', Below w.heap.size w w' → Calls Try.prog 18 #[.agg (profC nm (.slice A l.length c) m)] w' fun e w'' => e = .returned (.tuple #[.string (bytesP nm l m), .int .i64 (profCheck nm l m)]) ∧ Below w'.heap.size w' w'') := fun w' hb => rBytes_any nm A c l m w' hs (Kd.C_below hr hb) hc
  have HK1 : Hid (∀ w', Below w.heap.size w w' → Calls Try.prog 22 #[.agg (profC nm (.slice A l.length c) m)] w' fun e w'' => e = .returned (.int .i64 (profCheck nm l m)) ∧ Below w'.heap.size w' w'') := fun w' hb => pcheck_any nm A c l m w' hs (Kd.C_below hr hb) hc
  have HK2 : Hid (∀ w', Below w.heap.size w w' → Calls Try.prog 23 #[.agg (profC nm (.slice A l.length c) m)] w' fun e w'' => e = .returned (.int .i64 (profCheck nm l m)) ∧ Below w'.heap.size w' w'') := fun w' hb => rpcheck_any nm A c l m w' hs (Kd.C_below hr hb) hc
  have HS1 := Lib.hid (fun w => pstd_any i w)
  have HS2 := Lib.hid (fun w => rstd_any i w)
  have hlen : (pairsK (stdI i)).length ≤ 140737488355232 := std_len i
  generalize (bytesP nm l m) = bp at *
  generalize (profCheck nm l m) = pc at *
  generalize stdN i = sn at *
  generalize stdM i = sm at *
  generalize stdC i = sc at *
  generalize pairsK (stdI i) = sl at *
  go_enter Try.func4, Try.ntmps4
  go_upto_region 1 with fail
  have h0 : holdsC (w.alloc (.cells (profC nm (.slice A l.length c) m) 25)) w.heap.size 25 (profC nm (.slice A l.length c) m) := by
    have h : holdsC (w.alloc (.cells (profC nm (.slice A l.length c) m) 25)) w.heap.size 25 (profC nm (.slice A l.length c) m) := heap_alloc_new _ _
    have h := h
    exact h
  have hb : Below w.heap.size w (w.alloc (.cells (profC nm (.slice A l.length c) m) 25)) := ((Below.refl _ _).alloc (Nat.le_refl _) _)
  generalize (w.alloc (.cells (profC nm (.slice A l.length c) m) 25)) = wc at *
  generalize hB : w.heap.size = B at *
  have HB := Lib.hid hB
  clear hB
  go_wp2_with fail
  refine (HS1.out _).mono ?_; rintro e w1 ⟨A1, c1, rfl, hC1, hc1, b1⟩
  have g0_ := h0.kept b1 h0.lt
  have gb_ := hb.trans (b1.mono (Nat.le_trans (Nat.le_of_eq HB.out.symm) hb.size))
  clear h0 hb b1
  have HC1_0 : Hid (∀  w', Below w1.heap.size w1 w' → Kd.C k72 w' A1 sl.length sl) := fun w' h => Kd.C_below hC1 h
  clear hC1
  have H3 : holdsC (w1.alloc (.cells #[.string ⟨#[]⟩, .slice none 0 0, .int .i64 0, .int .i64 0, .int .i64 0, .int .i64 0, .int .i64 0, .int .i64 0, .int .i64 0, .int .i64 0, .int .i64 0] 25)) w1.heap.size 25 #[.string ⟨#[]⟩, .slice none 0 0, .int .i64 0, .int .i64 0, .int .i64 0, .int .i64 0, .int .i64 0, .int .i64 0, .int .i64 0, .int .i64 0, .int .i64 0] := heap_alloc_new _ _
  have k0_ := (g0_.alloc (.cells #[.string ⟨#[]⟩, .slice none 0 0, .int .i64 0, .int .i64 0, .int .i64 0, .int .i64 0, .int .i64 0, .int .i64 0, .int .i64 0, .int .i64 0, .int .i64 0] 25)).setRowOther (g' := w1.heap.size) (by have := g0_.lt; omega) (profC sn (.slice A1 sl.length c1) sm)
  have nk0_ : B < w1.heap.size := g0_.lt
  have k1_ := holdsC_row H3 (profC sn (.slice A1 sl.length c1) sm)
  have nq1 : B ≤ w1.heap.size := by rw [← HB.out]; exact gb_.size
  have kb_ := below_setRow (gb_.alloc nq1 (.cells #[.string ⟨#[]⟩, .slice none 0 0, .int .i64 0, .int .i64 0, .int .i64 0, .int .i64 0, .int .i64 0, .int .i64 0, .int .i64 0, .int .i64 0, .int .i64 0] 25)) nq1 (profC sn (.slice A1 sl.length c1) sm)
  have bb := below_setRow ((Below.refl w1.heap.size w1).alloc (Nat.le_refl _) (.cells #[.string ⟨#[]⟩, .slice none 0 0, .int .i64 0, .int .i64 0, .int .i64 0, .int .i64 0, .int .i64 0, .int .i64 0, .int .i64 0, .int .i64 0, .int .i64 0] 25)) (Nat.le_refl _) (profC sn (.slice A1 sl.length c1) sm)
  have HC1_1 : Hid (∀  w', Below ((w1.alloc (.cells #[.string ⟨#[]⟩, .slice none 0 0, .int .i64 0, .int .i64 0, .int .i64 0, .int .i64 0, .int .i64 0, .int .i64 0, .int .i64 0, .int .i64 0, .int .i64 0] 25)).setRow w1.heap.size (profC sn (.slice A1 sl.length c1) sm)).heap.size ((w1.alloc (.cells #[.string ⟨#[]⟩, .slice none 0 0, .int .i64 0, .int .i64 0, .int .i64 0, .int .i64 0, .int .i64 0, .int .i64 0, .int .i64 0, .int .i64 0, .int .i64 0] 25)).setRow w1.heap.size (profC sn (.slice A1 sl.length c1) sm)) w' → Kd.C k72 w' A1 sl.length sl) := fun  w' h => HC1_0.out  w' (bb.trans (h.mono bb.size))
  clear HC1_0
  clear bb
  go_upto_region 2 with (first | (refine wpList_store_row rfl 25 (.tmp 5) (.tmp 16) rfl _ (profC sn (.slice A1 sl.length c1) sm) rfl rfl 25 _ H3 (profC_info _ _ _) (by rw [profC_size]; rfl) (profC_one _ _ _ rfl) ?_))
  clear H3 g0_ gb_
  generalize (w1.alloc (.cells #[.string ⟨#[]⟩, .slice none 0 0, .int .i64 0, .int .i64 0, .int .i64 0, .int .i64 0, .int .i64 0, .int .i64 0, .int .i64 0, .int .i64 0, .int .i64 0] 25)).setRow w1.heap.size (profC sn (.slice A1 sl.length c1) sm) = w2 at *
  generalize w1.heap.size = q1 at *
  go_wp2_with fail
  refine (HS2.out _).mono ?_; rintro e w3 ⟨A2, c2, rfl, hC2, hc2, b1⟩
  have u0_ := k0_.kept b1 k0_.lt
  have u1_ := k1_.kept b1 k1_.lt
  have ub_ := kb_.trans (b1.mono (Nat.le_trans (Nat.le_of_eq HB.out.symm) kb_.size))
  have HC1_2 : Hid (∀  w', Below w3.heap.size w3 w' → Kd.C k72 w' A1 sl.length sl) := fun  w' h => HC1_1.out  w' (b1.trans (h.mono b1.size))
  clear HC1_1
  clear k0_ k1_ kb_ b1
  have HC2_0 : Hid (∀  w', Below w3.heap.size w3 w' → Kd.C k72 w' A2 sl.length sl) := fun w' h => Kd.C_below hC2 h
  clear hC2
  have H3 : holdsC (w3.alloc (.cells #[.string ⟨#[]⟩, .slice none 0 0, .int .i64 0, .int .i64 0, .int .i64 0, .int .i64 0, .int .i64 0, .int .i64 0, .int .i64 0, .int .i64 0, .int .i64 0] 25)) w3.heap.size 25 #[.string ⟨#[]⟩, .slice none 0 0, .int .i64 0, .int .i64 0, .int .i64 0, .int .i64 0, .int .i64 0, .int .i64 0, .int .i64 0, .int .i64 0, .int .i64 0] := heap_alloc_new _ _
  have v0_ := (u0_.alloc (.cells #[.string ⟨#[]⟩, .slice none 0 0, .int .i64 0, .int .i64 0, .int .i64 0, .int .i64 0, .int .i64 0, .int .i64 0, .int .i64 0, .int .i64 0, .int .i64 0] 25)).setRowOther (g' := w3.heap.size) (by have := u0_.lt; omega) (profC sn (.slice A2 sl.length c2) sm)
  have nv0_ : B < w3.heap.size := u0_.lt
  have v1_ := (u1_.alloc (.cells #[.string ⟨#[]⟩, .slice none 0 0, .int .i64 0, .int .i64 0, .int .i64 0, .int .i64 0, .int .i64 0, .int .i64 0, .int .i64 0, .int .i64 0, .int .i64 0] 25)).setRowOther (g' := w3.heap.size) (by have := u1_.lt; omega) (profC sn (.slice A2 sl.length c2) sm)
  have nv1_ : q1 < w3.heap.size := u1_.lt
  have v2_ := holdsC_row H3 (profC sn (.slice A2 sl.length c2) sm)
  have nq2 : B ≤ w3.heap.size := by rw [← HB.out]; exact ub_.size
  have vb_ := below_setRow (ub_.alloc nq2 (.cells #[.string ⟨#[]⟩, .slice none 0 0, .int .i64 0, .int .i64 0, .int .i64 0, .int .i64 0, .int .i64 0, .int .i64 0, .int .i64 0, .int .i64 0, .int .i64 0] 25)) nq2 (profC sn (.slice A2 sl.length c2) sm)
  have bb := below_setRow ((Below.refl w3.heap.size w3).alloc (Nat.le_refl _) (.cells #[.string ⟨#[]⟩, .slice none 0 0, .int .i64 0, .int .i64 0, .int .i64 0, .int .i64 0, .int .i64 0, .int .i64 0, .int .i64 0, .int .i64 0, .int .i64 0] 25)) (Nat.le_refl _) (profC sn (.slice A2 sl.length c2) sm)
  have HC1_3 : Hid (∀  w', Below ((w3.alloc (.cells #[.string ⟨#[]⟩, .slice none 0 0, .int .i64 0, .int .i64 0, .int .i64 0, .int .i64 0, .int .i64 0, .int .i64 0, .int .i64 0, .int .i64 0, .int .i64 0] 25)).setRow w3.heap.size (profC sn (.slice A2 sl.length c2) sm)).heap.size ((w3.alloc (.cells #[.string ⟨#[]⟩, .slice none 0 0, .int .i64 0, .int .i64 0, .int .i64 0, .int .i64 0, .int .i64 0, .int .i64 0, .int .i64 0, .int .i64 0, .int .i64 0] 25)).setRow w3.heap.size (profC sn (.slice A2 sl.length c2) sm)) w' → Kd.C k72 w' A1 sl.length sl) := fun  w' h => HC1_2.out  w' (bb.trans (h.mono bb.size))
  clear HC1_2
  have HC2_1 : Hid (∀  w', Below ((w3.alloc (.cells #[.string ⟨#[]⟩, .slice none 0 0, .int .i64 0, .int .i64 0, .int .i64 0, .int .i64 0, .int .i64 0, .int .i64 0, .int .i64 0, .int .i64 0, .int .i64 0] 25)).setRow w3.heap.size (profC sn (.slice A2 sl.length c2) sm)).heap.size ((w3.alloc (.cells #[.string ⟨#[]⟩, .slice none 0 0, .int .i64 0, .int .i64 0, .int .i64 0, .int .i64 0, .int .i64 0, .int .i64 0, .int .i64 0, .int .i64 0, .int .i64 0] 25)).setRow w3.heap.size (profC sn (.slice A2 sl.length c2) sm)) w' → Kd.C k72 w' A2 sl.length sl) := fun  w' h => HC2_0.out  w' (bb.trans (h.mono bb.size))
  clear HC2_0
  clear bb
  go_upto_region 3 with (first | (refine wpList_store_row rfl 25 (.tmp 7) (.tmp 21) rfl _ (profC sn (.slice A2 sl.length c2) sm) rfl rfl 25 _ H3 (profC_info _ _ _) (by rw [profC_size]; rfl) (profC_one _ _ _ rfl) ?_))
  clear H3 u0_ u1_ ub_
  generalize (w3.alloc (.cells #[.string ⟨#[]⟩, .slice none 0 0, .int .i64 0, .int .i64 0, .int .i64 0, .int .i64 0, .int .i64 0, .int .i64 0, .int .i64 0, .int .i64 0, .int .i64 0] 25)).setRow w3.heap.size (profC sn (.slice A2 sl.length c2) sm) = w4 at *
  generalize w3.heap.size = q2 at *
  go_wp2_with (refine wpList_load_row rfl 25 (.tmp 2) rfl B rfl 25 (profC nm (.slice A l.length c) m) (0, 0) _ v0_ Try.underlying25 rfl (profC_info _ _ _) ?_)
  refine (HY1.out _ vb_).mono ?_; rintro e w5 ⟨rfl, b1⟩
  have x0_ := v0_.kept b1 v0_.lt
  have x1_ := v1_.kept b1 v1_.lt
  have x2_ := v2_.kept b1 v2_.lt
  have xb_ := vb_.trans (b1.mono (Nat.le_trans (Nat.le_of_eq HB.out.symm) vb_.size))
  have HC1_4 : Hid (∀  w', Below w5.heap.size w5 w' → Kd.C k72 w' A1 sl.length sl) := fun  w' h => HC1_3.out  w' (b1.trans (h.mono b1.size))
  clear HC1_3
  have HC2_2 : Hid (∀  w', Below w5.heap.size w5 w' → Kd.C k72 w' A2 sl.length sl) := fun  w' h => HC2_1.out  w' (b1.trans (h.mono b1.size))
  clear HC2_1
  clear v0_ v1_ v2_ vb_ b1
  go_wp2_with (refine wpList_load_row rfl 25 (.tmp 2) rfl B rfl 25 (profC nm (.slice A l.length c) m) (0, 0) _ x0_ Try.underlying25 rfl (profC_info _ _ _) ?_)
  refine (HY2.out _ xb_).mono ?_; rintro e w6 ⟨rfl, b1⟩
  have y0_ := x0_.kept b1 x0_.lt
  have y1_ := x1_.kept b1 x1_.lt
  have y2_ := x2_.kept b1 x2_.lt
  have yb_ := xb_.trans (b1.mono (Nat.le_trans (Nat.le_of_eq HB.out.symm) xb_.size))
  have HC1_5 : Hid (∀  w', Below w6.heap.size w6 w' → Kd.C k72 w' A1 sl.length sl) := fun  w' h => HC1_4.out  w' (b1.trans (h.mono b1.size))
  clear HC1_4
  have HC2_3 : Hid (∀  w', Below w6.heap.size w6 w' → Kd.C k72 w' A2 sl.length sl) := fun  w' h => HC2_2.out  w' (b1.trans (h.mono b1.size))
  clear HC2_2
  clear x0_ x1_ x2_ xb_ b1
  go_upto_region 5 with fail
  have k0 := y0_
  have k1 := y1_
  have k2 := y2_
  have HK := Lib.hid yb_
  clear y0_ y1_ y2_ yb_
  refine start_ (n := 34) (S := fun w' => holdsC w' B 25 (profC nm (.slice A l.length c) m) ∧ holdsC w' q1 25 (profC sn (.slice A1 sl.length c1) sm) ∧ holdsC w' q2 25 (profC sn (.slice A2 sl.length c2) sm)) (ds := []) #[false, false, false, false, false, false, false, false, false, false, false, false, false, false, false, false, false, false, false, false, false, false, false, false, false, false, false, false, false, false, false, false, false, false] (by kernel_rfl) rfl rfl ⟨k0, k1, k2⟩ (fun hHeld => ?_)
  have HK := Lib.hid HK.out.drew
  have HC1_6 : Hid (∀  w', Below w6.drew.heap.size w6.drew w' → Kd.C k72 w' A1 sl.length sl) := fun  w' h => HC1_5.out  w' ((Below.refl _ _).drew.trans h)
  clear HC1_5
  have HC2_4 : Hid (∀  w', Below w6.drew.heap.size w6.drew w' → Kd.C k72 w' A2 sl.length sl) := fun  w' h => HC2_3.out  w' ((Below.refl _ _).drew.trans h)
  clear HC2_3
  refine one_ (i := 0) (N := some 33) #[true, false, false, false, false, false, false, false, false, false, false, false, false, false, false, false, false, false, false, false, false, false, false, false, false, false, false, false, false, false, false, false, false, false] rfl rfl (by kernel_rfl) (by decide) (fun K hK => ?_)
  refine goes_ Try.func19 (by kernel_rfl) rfl #[] (by rfl) rfl rfl (by simp only [List.map_toArray, List.map_nil]) ?_
  refine ((profile_Count.calls 4 _ rfl).mono (fun e w' h => And.intro h.1 (drawn_below h.2))).mono ?_
  rintro e W1 ⟨rfl, b1⟩
  refine ⟨_, rfl, ?_⟩
  have HK := Lib.hid (HK.out.trans (b1.mono (Nat.le_trans (Nat.le_of_eq HB.out.symm) HK.out.size)))
  have s0 := hHeld.1.kept b1 hHeld.1.lt
  have s1 := hHeld.2.1.kept b1 hHeld.2.1.lt
  have s2 := hHeld.2.2.kept b1 hHeld.2.2.lt
  have HC1_7 : Hid (∀  w', Below W1.heap.size W1 w' → Kd.C k72 w' A1 sl.length sl) := fun  w' h => HC1_6.out  w' (b1.trans (h.mono b1.size))
  clear HC1_6
  have HC2_5 : Hid (∀  w', Below W1.heap.size W1 w' → Kd.C k72 w' A2 sl.length sl) := fun  w' h => HC2_4.out  w' (b1.trans (h.mono b1.size))
  clear HC2_4
  refine hK.out _ _ ⟨s0, s1, s2⟩ (fun hHeld => ?_)
  clear hK K b1
  refine norm_ (a' := ?_) ?_ ?_
  rotate_left
  · show Act.put _ (some 33) _ = _
    simp only [Act.put, List.setIfInBounds_toArray, List.set_cons_zero, List.set_cons_succ]
    rfl
  refine one_ (i := 1) (N := some 34) #[true, true, false, false, false, false, false, false, false, false, false, false, false, false, false, false, false, false, false, false, false, false, false, false, false, false, false, false, false, false, false, false, false, false] rfl rfl (by kernel_rfl) (by decide) (fun K hK => ?_)
  refine goes_ Try.func20 (by kernel_rfl) rfl #[] (by rfl) rfl rfl (by simp only [List.map_toArray, List.map_nil]) ?_
  refine ((imageeditorref09_Count.calls 4 _ rfl).mono (fun e w' h => And.intro h.1 (drawn_below h.2))).mono ?_
  rintro e W1 ⟨rfl, b1⟩
  refine ⟨_, rfl, ?_⟩
  have HK := Lib.hid (HK.out.trans (b1.mono (Nat.le_trans (Nat.le_of_eq HB.out.symm) HK.out.size)))
  have s0 := hHeld.1.kept b1 hHeld.1.lt
  have s1 := hHeld.2.1.kept b1 hHeld.2.1.lt
  have s2 := hHeld.2.2.kept b1 hHeld.2.2.lt
  have HC1_8 : Hid (∀  w', Below W1.heap.size W1 w' → Kd.C k72 w' A1 sl.length sl) := fun  w' h => HC1_7.out  w' (b1.trans (h.mono b1.size))
  clear HC1_7
  have HC2_6 : Hid (∀  w', Below W1.heap.size W1 w' → Kd.C k72 w' A2 sl.length sl) := fun  w' h => HC2_5.out  w' (b1.trans (h.mono b1.size))
  clear HC2_5
  refine hK.out _ _ ⟨s0, s1, s2⟩ (fun hHeld => ?_)
  clear hK K b1
  refine norm_ (a' := ?_) ?_ ?_
  rotate_left
  · show Act.put _ (some 34) _ = _
    simp only [Act.put, List.setIfInBounds_toArray, List.set_cons_zero, List.set_cons_succ]
    rfl
  refine pure_ (i := 2) (N := some 35) (v := .bool true) (a' := ?_) #[true, true, true, false, false, false, false, false, false, false, false, false, false, false, false, false, false, false, false, false, false, false, false, false, false, false, false, false, false, false, false, false, false, false] rfl rfl (by kernel_rfl) (fun _ _ _ h => h) (Or.inl ⟨by rfl, fun w' => exec_eqI rfl rfl rfl⟩) ?_ ?_
  rotate_left
  · simp only [Act.put, List.setIfInBounds_toArray, List.set_cons_zero, List.set_cons_succ]
    rfl
  refine pure_ (i := 3) (N := some 36) (v := ?_) (a' := ?_) #[true, true, true, true, false, false, false, false, false, false, false, false, false, false, false, false, false, false, false, false, false, false, false, false, false, false, false, false, false, false, false, false, false, false] rfl rfl (by kernel_rfl) (fun _ _ _ h => h) (Or.inl ⟨by rfl, ?_⟩) ?_ ?_
  rotate_left
  · intro w'
    go_simp
    with_reducible rfl
  rotate_left
  · simp only [Act.put, List.setIfInBounds_toArray, List.set_cons_zero, List.set_cons_succ]
    rfl
  refine take_ (i := 4) (N := some 37) (v := .agg (profC sn (.slice A1 sl.length c1) sm)) (a' := ?_) #[true, true, true, true, true, false, false, false, false, false, false, false, false, false, false, false, false, false, false, false, false, false, false, false, false, false, false, false, false, false, false, false, false, false] rfl rfl (by kernel_rfl) (fun _ _ _ h => h) (Or.inl ⟨by rfl, fun w' s => exec_loadC rfl rfl s.2.1 rfl Try.underlying25 (profC_info _ _ _)⟩) hHeld ?_ ?_
  rotate_left
  · simp only [Act.put, List.setIfInBounds_toArray, List.set_cons_zero, List.set_cons_succ]
    rfl
  refine take_ (i := 5) (N := some 38) (v := .agg (profC sn (.slice A2 sl.length c2) sm)) (a' := ?_) #[true, true, true, true, true, true, false, false, false, false, false, false, false, false, false, false, false, false, false, false, false, false, false, false, false, false, false, false, false, false, false, false, false, false] rfl rfl (by kernel_rfl) (fun _ _ _ h => h) (Or.inl ⟨by rfl, fun w' s => exec_loadC rfl rfl s.2.2 rfl Try.underlying25 (profC_info _ _ _)⟩) hHeld ?_ ?_
  rotate_left
  · simp only [Act.put, List.setIfInBounds_toArray, List.set_cons_zero, List.set_cons_succ]
    rfl
  refine one_ (i := 6) (N := some 39) #[true, true, true, true, true, true, true, false, false, false, false, false, false, false, false, false, false, false, false, false, false, false, false, false, false, false, false, false, false, false, false, false, false, false] rfl rfl (by kernel_rfl) (by decide) (fun K hK => ?_)
  refine goes_ Try.func21 (by kernel_rfl) rfl #[.agg (profC sn (.slice A1 sl.length c1) sm), .agg (profC sn (.slice A2 sl.length c2) sm)] (by rfl) rfl rfl (by simp only [List.map_toArray, List.map_cons, List.map_nil]; rfl) ?_
  refine (same_true sn sl sm A1 A2 c1 c2 _ hlen (HC1_8.out _ (Below.refl _ _)) (HC2_6.out _ (Below.refl _ _))).mono ?_
  rintro e W1 ⟨rfl, b1⟩
  refine ⟨_, rfl, ?_⟩
  have HK := Lib.hid (HK.out.trans (b1.mono (Nat.le_trans (Nat.le_of_eq HB.out.symm) HK.out.size)))
  have s0 := hHeld.1.kept b1 hHeld.1.lt
  have s1 := hHeld.2.1.kept b1 hHeld.2.1.lt
  have s2 := hHeld.2.2.kept b1 hHeld.2.2.lt
  refine hK.out _ _ ⟨s0, s1, s2⟩ (fun hHeld => ?_)
  clear hK K b1
  refine norm_ (a' := ?_) ?_ ?_
  rotate_left
  · show Act.put _ (some 39) _ = _
    simp only [Act.put, List.setIfInBounds_toArray, List.set_cons_zero, List.set_cons_succ]
    rfl
  refine pure_ (i := 7) (N := some 40) (v := ?_) (a' := ?_) #[true, true, true, true, true, true, true, true, false, false, false, false, false, false, false, false, false, false, false, false, false, false, false, false, false, false, false, false, false, false, false, false, false, false] rfl rfl (by kernel_rfl) (fun _ _ _ h => h) (Or.inl ⟨by rfl, ?_⟩) ?_ ?_
  rotate_left
  · intro w'
    go_simp
    with_reducible rfl
  rotate_left
  · simp only [Act.put, List.setIfInBounds_toArray, List.set_cons_zero, List.set_cons_succ]
    rfl
  refine pure_ (i := 8) (N := some 41) (v := ?_) (a' := ?_) #[true, true, true, true, true, true, true, true, true, false, false, false, false, false, false, false, false, false, false, false, false, false, false, false, false, false, false, false, false, false, false, false, false, false] rfl rfl (by kernel_rfl) (fun _ _ _ h => h) (Or.inl ⟨by rfl, ?_⟩) ?_ ?_
  rotate_left
  · intro w'
    go_simp
    with_reducible rfl
  rotate_left
  · simp only [Act.put, List.setIfInBounds_toArray, List.set_cons_zero, List.set_cons_succ]
    rfl
  refine pure_ (i := 9) (N := some 42) (v := ?_) (a' := ?_) #[true, true, true, true, true, true, true, true, true, true, false, false, false, false, false, false, false, false, false, false, false, false, false, false, false, false, false, false, false, false, false, false, false, false] rfl rfl (by kernel_rfl) (fun _ _ _ h => h) (Or.inl ⟨by rfl, ?_⟩) ?_ ?_
  rotate_left
  · intro w'
    go_simp
    with_reducible rfl
  rotate_left
  · simp only [Act.put, List.setIfInBounds_toArray, List.set_cons_zero, List.set_cons_succ]
    rfl
  refine pure_ (i := 10) (N := some 43) (v := ?_) (a' := ?_) #[true, true, true, true, true, true, true, true, true, true, true, false, false, false, false, false, false, false, false, false, false, false, false, false, false, false, false, false, false, false, false, false, false, false] rfl rfl (by kernel_rfl) (fun _ _ _ h => h) (Or.inl ⟨by rfl, ?_⟩) ?_ ?_
  rotate_left
  · intro w'
    go_simp
    with_reducible rfl
  rotate_left
  · simp only [Act.put, List.setIfInBounds_toArray, List.set_cons_zero, List.set_cons_succ]
    rfl
  refine pure_ (i := 11) (N := some 44) (v := .bool true) (a' := ?_) #[true, true, true, true, true, true, true, true, true, true, true, true, false, false, false, false, false, false, false, false, false, false, false, false, false, false, false, false, false, false, false, false, false, false] rfl rfl (by kernel_rfl) (fun _ _ _ h => h) (Or.inl ⟨by rfl, fun w' => exec_eqE rfl rfl rfl⟩) ?_ ?_
  rotate_left
  · simp only [Act.put, List.setIfInBounds_toArray, List.set_cons_zero, List.set_cons_succ]
    rfl
  refine pure_ (i := 12) (N := some 45) (v := ?_) (a' := ?_) #[true, true, true, true, true, true, true, true, true, true, true, true, true, false, false, false, false, false, false, false, false, false, false, false, false, false, false, false, false, false, false, false, false, false] rfl rfl (by kernel_rfl) (fun _ _ _ h => h) (Or.inl ⟨by rfl, ?_⟩) ?_ ?_
  rotate_left
  · intro w'
    go_simp
    with_reducible rfl
  rotate_left
  · simp only [Act.put, List.setIfInBounds_toArray, List.set_cons_zero, List.set_cons_succ]
    rfl
  refine pure_ (i := 13) (N := some 46) (v := ?_) (a' := ?_) #[true, true, true, true, true, true, true, true, true, true, true, true, true, true, false, false, false, false, false, false, false, false, false, false, false, false, false, false, false, false, false, false, false, false] rfl rfl (by kernel_rfl) (fun _ _ _ h => h) (Or.inl ⟨by rfl, ?_⟩) ?_ ?_
  rotate_left
  · intro w'
    go_simp
    with_reducible rfl
  rotate_left
  · simp only [Act.put, List.setIfInBounds_toArray, List.set_cons_zero, List.set_cons_succ]
    rfl
  refine take_ (i := 14) (N := some 47) (v := .agg (profC nm (.slice A l.length c) m)) (a' := ?_) #[true, true, true, true, true, true, true, true, true, true, true, true, true, true, true, false, false, false, false, false, false, false, false, false, false, false, false, false, false, false, false, false, false, false] rfl rfl (by kernel_rfl) (fun _ _ _ h => h) (Or.inl ⟨by rfl, fun w' s => exec_loadC rfl rfl s.1 rfl Try.underlying25 (profC_info _ _ _)⟩) hHeld ?_ ?_
  rotate_left
  · simp only [Act.put, List.setIfInBounds_toArray, List.set_cons_zero, List.set_cons_succ]
    rfl
  refine take_ (i := 16) (N := some 49) (v := .agg (profC nm (.slice A l.length c) m)) (a' := ?_) #[true, true, true, true, true, true, true, true, true, true, true, true, true, true, true, false, true, false, false, false, false, false, false, false, false, false, false, false, false, false, false, false, false, false] rfl rfl (by kernel_rfl) (fun _ _ _ h => h) (Or.inl ⟨by rfl, fun w' s => exec_loadC rfl rfl s.1 rfl Try.underlying25 (profC_info _ _ _)⟩) hHeld ?_ ?_
  rotate_left
  · simp only [Act.put, List.setIfInBounds_toArray, List.set_cons_zero, List.set_cons_succ]
    rfl
  refine one_ (i := 15) (N := some 48) #[true, true, true, true, true, true, true, true, true, true, true, true, true, true, true, true, true, false, false, false, false, false, false, false, false, false, false, false, false, false, false, false, false, false] rfl rfl (by kernel_rfl) (by decide) (fun K hK => ?_)
  refine goes_ Try.func22 (by kernel_rfl) rfl #[.agg (profC nm (.slice A l.length c) m)] (by rfl) rfl rfl (by simp only [List.map_toArray, List.map_cons, List.map_nil]; rfl) ?_
  refine (HK1.out _ HK.out).mono ?_
  rintro e W1 ⟨rfl, b1⟩
  refine ⟨_, rfl, ?_⟩
  have HK := Lib.hid (HK.out.trans (b1.mono (Nat.le_trans (Nat.le_of_eq HB.out.symm) HK.out.size)))
  have s0 := hHeld.1.kept b1 hHeld.1.lt
  have s1 := hHeld.2.1.kept b1 hHeld.2.1.lt
  have s2 := hHeld.2.2.kept b1 hHeld.2.2.lt
  refine hK.out _ _ ⟨s0, s1, s2⟩ (fun hHeld => ?_)
  clear hK K b1
  refine norm_ (a' := ?_) ?_ ?_
  rotate_left
  · show Act.put _ (some 48) _ = _
    simp only [Act.put, List.setIfInBounds_toArray, List.set_cons_zero, List.set_cons_succ]
    rfl
  refine one_ (i := 17) (N := some 50) #[true, true, true, true, true, true, true, true, true, true, true, true, true, true, true, true, true, true, false, false, false, false, false, false, false, false, false, false, false, false, false, false, false, false] rfl rfl (by kernel_rfl) (by decide) (fun K hK => ?_)
  refine goes_ Try.func23 (by kernel_rfl) rfl #[.agg (profC nm (.slice A l.length c) m)] (by rfl) rfl rfl (by simp only [List.map_toArray, List.map_cons, List.map_nil]; rfl) ?_
  refine (HK2.out _ HK.out).mono ?_
  rintro e W1 ⟨rfl, b1⟩
  refine ⟨_, rfl, ?_⟩
  have HK := Lib.hid (HK.out.trans (b1.mono (Nat.le_trans (Nat.le_of_eq HB.out.symm) HK.out.size)))
  have s0 := hHeld.1.kept b1 hHeld.1.lt
  have s1 := hHeld.2.1.kept b1 hHeld.2.1.lt
  have s2 := hHeld.2.2.kept b1 hHeld.2.2.lt
  refine hK.out _ _ ⟨s0, s1, s2⟩ (fun hHeld => ?_)
  clear hK K b1
  refine norm_ (a' := ?_) ?_ ?_
  rotate_left
  · show Act.put _ (some 50) _ = _
    simp only [Act.put, List.setIfInBounds_toArray, List.set_cons_zero, List.set_cons_succ]
    rfl
  refine pure_ (i := 18) (N := some 51) (v := .bool true) (a' := ?_) #[true, true, true, true, true, true, true, true, true, true, true, true, true, true, true, true, true, true, true, false, false, false, false, false, false, false, false, false, false, false, false, false, false, false] rfl rfl (by kernel_rfl) (fun _ _ _ h => h) (Or.inl ⟨by rfl, fun w' => exec_eqE rfl rfl rfl⟩) ?_ ?_
  rotate_left
  · simp only [Act.put, List.setIfInBounds_toArray, List.set_cons_zero, List.set_cons_succ]
    rfl
  refine pure_ (i := 19) (N := some 52) (v := ?_) (a' := ?_) #[true, true, true, true, true, true, true, true, true, true, true, true, true, true, true, true, true, true, true, true, false, false, false, false, false, false, false, false, false, false, false, false, false, false] rfl rfl (by kernel_rfl) (fun _ _ _ h => h) (Or.inl ⟨by rfl, ?_⟩) ?_ ?_
  rotate_left
  · intro w'
    go_simp
    with_reducible rfl
  rotate_left
  · simp only [Act.put, List.setIfInBounds_toArray, List.set_cons_zero, List.set_cons_succ]
    rfl
  refine pure_ (i := 20) (N := some 53) (v := ?_) (a' := ?_) #[true, true, true, true, true, true, true, true, true, true, true, true, true, true, true, true, true, true, true, true, true, false, false, false, false, false, false, false, false, false, false, false, false, false] rfl rfl (by kernel_rfl) (fun _ _ _ h => h) (Or.inl ⟨by rfl, ?_⟩) ?_ ?_
  rotate_left
  · intro w'
    go_simp
    with_reducible rfl
  rotate_left
  · simp only [Act.put, List.setIfInBounds_toArray, List.set_cons_zero, List.set_cons_succ]
    rfl
  refine pure_ (i := 21) (N := some 54) (v := ?_) (a' := ?_) #[true, true, true, true, true, true, true, true, true, true, true, true, true, true, true, true, true, true, true, true, true, true, false, false, false, false, false, false, false, false, false, false, false, false] rfl rfl (by kernel_rfl) (fun _ _ _ h => h) (Or.inl ⟨by rfl, ?_⟩) ?_ ?_
  rotate_left
  · intro w'
    go_simp
    with_reducible rfl
  rotate_left
  · simp only [Act.put, List.setIfInBounds_toArray, List.set_cons_zero, List.set_cons_succ]
    rfl
  refine pure_ (i := 22) (N := some 55) (v := ?_) (a' := ?_) #[true, true, true, true, true, true, true, true, true, true, true, true, true, true, true, true, true, true, true, true, true, true, true, false, false, false, false, false, false, false, false, false, false, false] rfl rfl (by kernel_rfl) (fun _ _ _ h => h) (Or.inl ⟨by rfl, ?_⟩) ?_ ?_
  rotate_left
  · intro w'
    go_simp
    with_reducible rfl
  rotate_left
  · simp only [Act.put, List.setIfInBounds_toArray, List.set_cons_zero, List.set_cons_succ]
    rfl
  refine pure_ (i := 23) (N := some 56) (v := .bool true) (a' := ?_) #[true, true, true, true, true, true, true, true, true, true, true, true, true, true, true, true, true, true, true, true, true, true, true, true, false, false, false, false, false, false, false, false, false, false] rfl rfl (by kernel_rfl) (fun _ _ _ h => h) (Or.inl ⟨by rfl, fun w' => exec_eqS rfl rfl rfl⟩) ?_ ?_
  rotate_left
  · simp only [Act.put, List.setIfInBounds_toArray, List.set_cons_zero, List.set_cons_succ]
    rfl
  refine pure_ (i := 24) (N := some 57) (v := ?_) (a' := ?_) #[true, true, true, true, true, true, true, true, true, true, true, true, true, true, true, true, true, true, true, true, true, true, true, true, true, false, false, false, false, false, false, false, false, false] rfl rfl (by kernel_rfl) (fun _ _ _ h => h) (Or.inl ⟨by rfl, ?_⟩) ?_ ?_
  rotate_left
  · intro w'
    go_simp
    with_reducible rfl
  rotate_left
  · simp only [Act.put, List.setIfInBounds_toArray, List.set_cons_zero, List.set_cons_succ]
    rfl
  refine pure_ (i := 25) (N := some 58) (v := ?_) (a' := ?_) #[true, true, true, true, true, true, true, true, true, true, true, true, true, true, true, true, true, true, true, true, true, true, true, true, true, true, false, false, false, false, false, false, false, false] rfl rfl (by kernel_rfl) (fun _ _ _ h => h) (Or.inl ⟨by rfl, ?_⟩) ?_ ?_
  rotate_left
  · intro w'
    go_simp
    with_reducible rfl
  rotate_left
  · simp only [Act.put, List.setIfInBounds_toArray, List.set_cons_zero, List.set_cons_succ]
    rfl
  refine pure_ (i := 26) (N := some 59) (v := ?_) (a' := ?_) #[true, true, true, true, true, true, true, true, true, true, true, true, true, true, true, true, true, true, true, true, true, true, true, true, true, true, true, false, false, false, false, false, false, false] rfl rfl (by kernel_rfl) (fun _ _ _ h => h) (Or.inl ⟨by rfl, ?_⟩) ?_ ?_
  rotate_left
  · intro w'
    go_simp
    with_reducible rfl
  rotate_left
  · simp only [Act.put, List.setIfInBounds_toArray, List.set_cons_zero, List.set_cons_succ]
    rfl
  refine pure_ (i := 27) (N := some 60) (v := ?_) (a' := ?_) #[true, true, true, true, true, true, true, true, true, true, true, true, true, true, true, true, true, true, true, true, true, true, true, true, true, true, true, true, false, false, false, false, false, false] rfl rfl (by kernel_rfl) (fun _ _ _ h => h) (Or.inl ⟨by rfl, ?_⟩) ?_ ?_
  rotate_left
  · intro w'
    go_simp
    with_reducible rfl
  rotate_left
  · simp only [Act.put, List.setIfInBounds_toArray, List.set_cons_zero, List.set_cons_succ]
    rfl
  refine pure_ (i := 28) (N := some 61) (v := .bool true) (a' := ?_) #[true, true, true, true, true, true, true, true, true, true, true, true, true, true, true, true, true, true, true, true, true, true, true, true, true, true, true, true, true, false, false, false, false, false] rfl rfl (by kernel_rfl) (fun _ _ _ h => h) (Or.inl ⟨by rfl, fun w' => exec_eqE rfl rfl rfl⟩) ?_ ?_
  rotate_left
  · simp only [Act.put, List.setIfInBounds_toArray, List.set_cons_zero, List.set_cons_succ]
    rfl
  refine pure_ (i := 29) (N := some 62) (v := ?_) (a' := ?_) #[true, true, true, true, true, true, true, true, true, true, true, true, true, true, true, true, true, true, true, true, true, true, true, true, true, true, true, true, true, true, false, false, false, false] rfl rfl (by kernel_rfl) (fun _ _ _ h => h) (Or.inl ⟨by rfl, ?_⟩) ?_ ?_
  rotate_left
  · intro w'
    go_simp
    with_reducible rfl
  rotate_left
  · simp only [Act.put, List.setIfInBounds_toArray, List.set_cons_zero, List.set_cons_succ]
    rfl
  refine pure_ (i := 30) (N := some 63) (v := ?_) (a' := ?_) #[true, true, true, true, true, true, true, true, true, true, true, true, true, true, true, true, true, true, true, true, true, true, true, true, true, true, true, true, true, true, true, false, false, false] rfl rfl (by kernel_rfl) (fun _ _ _ h => h) (Or.inl ⟨by rfl, ?_⟩) ?_ ?_
  rotate_left
  · intro w'
    go_simp
    with_reducible rfl
  rotate_left
  · simp only [Act.put, List.setIfInBounds_toArray, List.set_cons_zero, List.set_cons_succ]
    rfl
  refine one_ (i := 31) (N := some 64) #[true, true, true, true, true, true, true, true, true, true, true, true, true, true, true, true, true, true, true, true, true, true, true, true, true, true, true, true, true, true, true, true, false, false] rfl rfl (by kernel_rfl) (by decide) (fun K hK => ?_)
  refine goes_ Try.func13 (by kernel_rfl) rfl #[] (by rfl) rfl rfl (by simp only [List.map_toArray, List.map_nil]) ?_
  refine (awake_true _).mono ?_
  rintro e W1 ⟨rfl, b1⟩
  refine ⟨_, rfl, ?_⟩
  have HK := Lib.hid (HK.out.trans (b1.mono (Nat.le_trans (Nat.le_of_eq HB.out.symm) HK.out.size)))
  have s0 := hHeld.1.kept b1 hHeld.1.lt
  have s1 := hHeld.2.1.kept b1 hHeld.2.1.lt
  have s2 := hHeld.2.2.kept b1 hHeld.2.2.lt
  refine hK.out _ _ ⟨s0, s1, s2⟩ (fun hHeld => ?_)
  clear hK K b1
  refine norm_ (a' := ?_) ?_ ?_
  rotate_left
  · show Act.put _ (some 64) _ = _
    simp only [Act.put, List.setIfInBounds_toArray, List.set_cons_zero, List.set_cons_succ]
    rfl
  refine pure_ (i := 32) (N := some 65) (v := ?_) (a' := ?_) #[true, true, true, true, true, true, true, true, true, true, true, true, true, true, true, true, true, true, true, true, true, true, true, true, true, true, true, true, true, true, true, true, true, false] rfl rfl (by kernel_rfl) (fun _ _ _ h => h) (Or.inl ⟨by rfl, ?_⟩) ?_ ?_
  rotate_left
  · intro w'
    go_simp
    with_reducible rfl
  rotate_left
  · simp only [Act.put, List.setIfInBounds_toArray, List.set_cons_zero, List.set_cons_succ]
    rfl
  refine pure_ (i := 33) (N := some 4) (v := ?_) (a' := ?_) #[true, true, true, true, true, true, true, true, true, true, true, true, true, true, true, true, true, true, true, true, true, true, true, true, true, true, true, true, true, true, true, true, true, true] rfl rfl (by kernel_rfl) (fun _ _ _ h => h) (Or.inl ⟨by rfl, ?_⟩) ?_ ?_
  rotate_left
  · intro w'
    go_simp
    with_reducible rfl
  rotate_left
  · simp only [Act.put, List.setIfInBounds_toArray, List.set_cons_zero, List.set_cons_succ]
    rfl
  refine done_ (by kernel_rfl) ?_
  go_wp2
  go_ret
  exact ⟨rfl, by rw [HB.out]; exact HK.out⟩
end Go.Proofs.Ytlpfepcmpccbeaa.Lw
