import Derived.Test.YtlpfepcmpccbeaaZV
import Derived.Test.YtlpfepcmpccbeaaZS
/-
  The law ProfileColors: its walk.
-/
namespace Go.Proofs.Ytlpfepcmpccbeaa.Lw
open Go.RowKit Go.Proofs.Ytlpfepcmpccbeaa.NM Go.Proofs.Ytlpfepcmpccbeaa.Cv Go.Proofs.Ytlpfepcmpccbeaa.Wi Go.Proofs.Ytlpfepcmpccbeaa.Nm9 Go.Proofs.Ytlpfepcmpccbeaa.Mx Go.Proofs.Ytlpfepcmpccbeaa.Pf Go.Proofs.Ytlpfepcmpccbeaa.Pt Go.Proofs.Ytlpfepcmpccbeaa.Aw Go.Proofs.Ytlpfepcmpccbeaa.PNum Go.Proofs.YtlpfepcmpccbeaaW.PrintWords Go.Proofs.YtlpfepcmpccbeaaW.PrintMore Go.Proofs.YtlpfepcmpccbeaaW.PrintLast
attribute [local go_sem] eq9 eq3 eg9 eg3
attribute [local go_sem high] eqA35
set_option linter.unusedVariables false
theorem eqN_self (n : Nat) (m : Nat → Int) : eqN n m m = true := by
  unfold eqN; simp
theorem exec_eq3 {o : Oper} {a : Act} {w : World} {x y : Operand} {m : Nat → Int} (ho : o.op = .binOp .eql 47 x y 47) (hx : a.eval x = .agg (arrN 3 m)) (hy : a.eval y = .agg (arrN 3 m)) : (execOp a.eval o).run Try.prog w = .ok (.value (.bool true)) w := by
  unfold execOp
  rw [ho]
  simp only [hx, hy]
  go_simp
  rw [eqN_self]
theorem exec_eqX {o : Oper} {a : Act} {w : World} {x y : Operand} {f : Nat → Int} (ho : o.op = .binOp .eql 35 x y 35) (hx : a.eval x = .agg (pixF f)) (hy : a.eval y = .agg (pixF f)) : (execOp a.eval o).run Try.prog w = .ok (.value (.bool true)) w := by
  unfold execOp
  rw [ho]
  simp only [hx, hy]
  unfold pixF pixC
  go_simp
theorem exec_eqE {o : Oper} {a : Act} {w : World} {x y : Operand} {n : Int} (ho : o.op = .binOp .eql 29 x y 29) (hx : a.eval x = .int .i64 n) (hy : a.eval y = .int .i64 n) : (execOp a.eval o).run Try.prog w = .ok (.value (.bool true)) w := by
  unfold execOp
  rw [ho]
  simp only [hx, hy]
  go_simp
set_option maxRecDepth 20000 in
set_option maxHeartbeats 2000000 in
theorem colors_true (nm : ByteArray) (A : Option Addr) (c : Nat) (l : List Kn) (m : Nat → Int) (r g b a : Int) (v : Nat → Int) (w : World) (hs : nm.size ≤ 140737488355232) (hr : Kd.C k72 w A l.length l) (hc : l.length ≤ c) :
    Calls Try.prog 5 #[.agg (profC nm (.slice A l.length c) m), .agg (pixC r g b a), .agg (arrN 3 v)] w fun e w' => e = .returned (.bool true) ∧ Below w.heap.size w w' := by
  have HE1 : Hid (∀ w', Below w.heap.size w w' → Calls Try.prog 24 #[.agg (profC nm (.slice A l.length c) m), .agg (arrN 3 v), .int .i64 a] w' fun e w'' => e = .returned (.tuple #[.agg (pixF (encP nm l m v a)), .int .i64 (profCheck nm l m)]) ∧ Below w'.heap.size w' w'') := fun w' hb => pEncode_any nm A c l m v a w' hs (Kd.C_below hr hb) hc
  have HE2 : Hid (∀ w', Below w.heap.size w w' → Calls Try.prog 25 #[.agg (profC nm (.slice A l.length c) m), .agg (arrN 3 v), .int .i64 a] w' fun e w'' => e = .returned (.tuple #[.agg (pixF (encP nm l m v a)), .int .i64 (profCheck nm l m)]) ∧ Below w'.heap.size w' w'') := fun w' hb => rEncode_any nm A c l m v a w' hs (Kd.C_below hr hb) hc
  have HL1 : Hid (∀ w', Below w.heap.size w w' → Calls Try.prog 26 #[.agg (profC nm (.slice A l.length c) m), .agg (pixC r g b a)] w' fun e w'' => e = .returned (.agg (arrN 3 (linP nm l m r g b))) ∧ Below w'.heap.size w' w'') := fun w' hb => pLinear_any nm A c l m r g b a w' hs (Kd.C_below hr hb) hc
  have HL2 : Hid (∀ w', Below w.heap.size w w' → Calls Try.prog 27 #[.agg (profC nm (.slice A l.length c) m), .agg (pixC r g b a)] w' fun e w'' => e = .returned (.agg (arrN 3 (linP nm l m r g b))) ∧ Below w'.heap.size w' w'') := fun w' hb => rLinear_any nm A c l m r g b a w' hs (Kd.C_below hr hb) hc
  generalize (encP nm l m v a) = ep at *
  generalize (linP nm l m r g b) = lp at *
  generalize (profCheck nm l m) = pc at *
  go_enter Try.func5, Try.ntmps5
  go_upto_region 1 with fail
  have h0 : holdsC (((w.alloc (.cells (profC nm (.slice A l.length c) m) 25)).alloc (.cells (pixC r g b a) 35)).alloc (.cells (arrN 3 v) 47)) w.heap.size 25 (profC nm (.slice A l.length c) m) := by
    have h : holdsC (w.alloc (.cells (profC nm (.slice A l.length c) m) 25)) w.heap.size 25 (profC nm (.slice A l.length c) m) := heap_alloc_new _ _
    have h := ((h.alloc (.cells (pixC r g b a) 35)).alloc (.cells (arrN 3 v) 47))
    exact h
  have h1 : holdsC (((w.alloc (.cells (profC nm (.slice A l.length c) m) 25)).alloc (.cells (pixC r g b a) 35)).alloc (.cells (arrN 3 v) 47)) (w.heap.size + 1) 35 (pixC r g b a) := by
    have h : holdsC ((w.alloc (.cells (profC nm (.slice A l.length c) m) 25)).alloc (.cells (pixC r g b a) 35)) (w.alloc (.cells (profC nm (.slice A l.length c) m) 25)).heap.size 35 (pixC r g b a) := heap_alloc_new _ _
    have h := (h.alloc (.cells (arrN 3 v) 47))
    simpa using h
  have h2 : holdsC (((w.alloc (.cells (profC nm (.slice A l.length c) m) 25)).alloc (.cells (pixC r g b a) 35)).alloc (.cells (arrN 3 v) 47)) (w.heap.size + 1 + 1) 47 (arrN 3 v) := by
    have h : holdsC (((w.alloc (.cells (profC nm (.slice A l.length c) m) 25)).alloc (.cells (pixC r g b a) 35)).alloc (.cells (arrN 3 v) 47)) ((w.alloc (.cells (profC nm (.slice A l.length c) m) 25)).alloc (.cells (pixC r g b a) 35)).heap.size 47 (arrN 3 v) := heap_alloc_new _ _
    have h := h
    simpa using h
  have hb : Below w.heap.size w (((w.alloc (.cells (profC nm (.slice A l.length c) m) 25)).alloc (.cells (pixC r g b a) 35)).alloc (.cells (arrN 3 v) 47)) := ((((Below.refl _ _).alloc (Nat.le_refl _) _).alloc (by simp) _).alloc (by simp; omega) _)
  generalize (((w.alloc (.cells (profC nm (.slice A l.length c) m) 25)).alloc (.cells (pixC r g b a) 35)).alloc (.cells (arrN 3 v) 47)) = wc at *
  generalize hB : w.heap.size = B at *
  have HB := Lib.hid hB
  clear hB
  have p3 := h1.cell 3 (.int .i64 a) rfl
  go_wp2_with (first
    | (refine wpList_load_row rfl 25 (.tmp 3) rfl B rfl 25 (profC nm (.slice A l.length c) m) (0, 0) _ h0 Try.underlying25 rfl (profC_info _ _ _) ?_)
    | (refine wpList_load_row rfl 47 (.tmp 5) rfl (B + 1 + 1) rfl 47 (arrN 3 v) (0, 0) _ h2 Try.underlying47 rfl (by rw [arrN_size]; kernel_rfl) ?_))
  clear p3
  refine (HE1.out _ hb).mono ?_; rintro e w1 ⟨rfl, b1⟩
  have g0_ := h0.kept b1 h0.lt
  have g1_ := h1.kept b1 h1.lt
  have g2_ := h2.kept b1 h2.lt
  have gb_ := hb.trans (b1.mono (Nat.le_trans (Nat.le_of_eq HB.out.symm) hb.size))
  clear h0 h1 h2 hb b1
  have H3 : holdsC (w1.alloc (.cells #[.int .i64 0, .int .i64 0, .int .i64 0, .int .i64 0] 35)) w1.heap.size 35 #[.int .i64 0, .int .i64 0, .int .i64 0, .int .i64 0] := heap_alloc_new _ _
  have k0_ := (g0_.alloc (.cells #[.int .i64 0, .int .i64 0, .int .i64 0, .int .i64 0] 35)).setRowOther (g' := w1.heap.size) (by have := g0_.lt; omega) (pixF ep)
  have nk0_ : B < w1.heap.size := g0_.lt
  have k1_ := (g1_.alloc (.cells #[.int .i64 0, .int .i64 0, .int .i64 0, .int .i64 0] 35)).setRowOther (g' := w1.heap.size) (by have := g1_.lt; omega) (pixF ep)
  have nk1_ : (B + 1) < w1.heap.size := g1_.lt
  have k2_ := (g2_.alloc (.cells #[.int .i64 0, .int .i64 0, .int .i64 0, .int .i64 0] 35)).setRowOther (g' := w1.heap.size) (by have := g2_.lt; omega) (pixF ep)
  have nk2_ : (B + 1 + 1) < w1.heap.size := g2_.lt
  have k3_ := holdsC_row H3 (pixF ep)
  have nq1 : B ≤ w1.heap.size := by rw [← HB.out]; exact gb_.size
  have kb_ := below_setRow (gb_.alloc nq1 (.cells #[.int .i64 0, .int .i64 0, .int .i64 0, .int .i64 0] 35)) nq1 (pixF ep)
  go_upto_region 2 with (first | (refine wpList_store_row rfl 35 (.tmp 7) (.tmp 17) rfl _ (pixF ep) rfl rfl 35 _ H3 (by kernel_rfl) rfl (by kernel_rfl) ?_))
  clear H3 g0_ g1_ g2_ gb_
  generalize (w1.alloc (.cells #[.int .i64 0, .int .i64 0, .int .i64 0, .int .i64 0] 35)).setRow w1.heap.size (pixF ep) = w2 at *
  generalize w1.heap.size = q1 at *
  have p3 := k1_.cell 3 (.int .i64 a) rfl
  go_wp2_with (first
    | (refine wpList_load_row rfl 25 (.tmp 3) rfl B rfl 25 (profC nm (.slice A l.length c) m) (0, 0) _ k0_ Try.underlying25 rfl (profC_info _ _ _) ?_)
    | (refine wpList_load_row rfl 47 (.tmp 5) rfl (B + 1 + 1) rfl 47 (arrN 3 v) (0, 0) _ k2_ Try.underlying47 rfl (by rw [arrN_size]; kernel_rfl) ?_))
  clear p3
  refine (HE2.out _ kb_).mono ?_; rintro e w3 ⟨rfl, b1⟩
  have u0_ := k0_.kept b1 k0_.lt
  have u1_ := k1_.kept b1 k1_.lt
  have u2_ := k2_.kept b1 k2_.lt
  have u3_ := k3_.kept b1 k3_.lt
  have ub_ := kb_.trans (b1.mono (Nat.le_trans (Nat.le_of_eq HB.out.symm) kb_.size))
  clear k0_ k1_ k2_ k3_ kb_ b1
  have H3 : holdsC (w3.alloc (.cells #[.int .i64 0, .int .i64 0, .int .i64 0, .int .i64 0] 35)) w3.heap.size 35 #[.int .i64 0, .int .i64 0, .int .i64 0, .int .i64 0] := heap_alloc_new _ _
  have v0_ := (u0_.alloc (.cells #[.int .i64 0, .int .i64 0, .int .i64 0, .int .i64 0] 35)).setRowOther (g' := w3.heap.size) (by have := u0_.lt; omega) (pixF ep)
  have nv0_ : B < w3.heap.size := u0_.lt
  have v1_ := (u1_.alloc (.cells #[.int .i64 0, .int .i64 0, .int .i64 0, .int .i64 0] 35)).setRowOther (g' := w3.heap.size) (by have := u1_.lt; omega) (pixF ep)
  have nv1_ : (B + 1) < w3.heap.size := u1_.lt
  have v2_ := (u2_.alloc (.cells #[.int .i64 0, .int .i64 0, .int .i64 0, .int .i64 0] 35)).setRowOther (g' := w3.heap.size) (by have := u2_.lt; omega) (pixF ep)
  have nv2_ : (B + 1 + 1) < w3.heap.size := u2_.lt
  have v3_ := (u3_.alloc (.cells #[.int .i64 0, .int .i64 0, .int .i64 0, .int .i64 0] 35)).setRowOther (g' := w3.heap.size) (by have := u3_.lt; omega) (pixF ep)
  have nv3_ : q1 < w3.heap.size := u3_.lt
  have v4_ := holdsC_row H3 (pixF ep)
  have nq2 : B ≤ w3.heap.size := by rw [← HB.out]; exact ub_.size
  have vb_ := below_setRow (ub_.alloc nq2 (.cells #[.int .i64 0, .int .i64 0, .int .i64 0, .int .i64 0] 35)) nq2 (pixF ep)
  go_upto_region 3 with (first | (refine wpList_store_row rfl 35 (.tmp 9) (.tmp 25) rfl _ (pixF ep) rfl rfl 35 _ H3 (by kernel_rfl) rfl (by kernel_rfl) ?_))
  clear H3 u0_ u1_ u2_ u3_ ub_
  generalize (w3.alloc (.cells #[.int .i64 0, .int .i64 0, .int .i64 0, .int .i64 0] 35)).setRow w3.heap.size (pixF ep) = w4 at *
  generalize w3.heap.size = q2 at *
  have k0 := v0_
  have k1 := v1_
  have k3 := v3_
  have k4 := v4_
  have HK := Lib.hid vb_
  clear v0_ v1_ v2_ v3_ v4_ vb_
  refine start_ (n := 21) (S := fun w' => holdsC w' B 25 (profC nm (.slice A l.length c) m) ∧ holdsC w' (B + 1) 35 (pixC r g b a) ∧ holdsC w' q1 35 (pixF ep) ∧ holdsC w' q2 35 (pixF ep)) (ds := []) #[false, false, false, false, false, false, false, false, false, false, false, false, false, false, false, false, false, false, false, false, false] (by kernel_rfl) rfl rfl ⟨k0, k1, k3, k4⟩ (fun hHeld => ?_)
  have HK := Lib.hid HK.out.drew
  refine take_ (i := 0) (N := some 27) (v := .agg (profC nm (.slice A l.length c) m)) (a' := ?_) #[true, false, false, false, false, false, false, false, false, false, false, false, false, false, false, false, false, false, false, false, false] rfl rfl (by kernel_rfl) (fun _ _ _ h => h) (Or.inl ⟨by rfl, fun w' s => exec_loadC rfl rfl s.1 rfl Try.underlying25 (profC_info _ _ _)⟩) hHeld ?_ ?_
  rotate_left
  · simp only [Act.put, List.setIfInBounds_toArray, List.set_cons_zero, List.set_cons_succ]
    rfl
  refine take_ (i := 1) (N := some 28) (v := .agg (pixC r g b a)) (a' := ?_) #[true, true, false, false, false, false, false, false, false, false, false, false, false, false, false, false, false, false, false, false, false] rfl rfl (by kernel_rfl) (fun _ _ _ h => h) (Or.inl ⟨by rfl, fun w' s => exec_loadC rfl rfl s.2.1 rfl Try.underlying35 (by kernel_rfl)⟩) hHeld ?_ ?_
  rotate_left
  · simp only [Act.put, List.setIfInBounds_toArray, List.set_cons_zero, List.set_cons_succ]
    rfl
  refine take_ (i := 3) (N := some 30) (v := .agg (profC nm (.slice A l.length c) m)) (a' := ?_) #[true, true, false, true, false, false, false, false, false, false, false, false, false, false, false, false, false, false, false, false, false] rfl rfl (by kernel_rfl) (fun _ _ _ h => h) (Or.inl ⟨by rfl, fun w' s => exec_loadC rfl rfl s.1 rfl Try.underlying25 (profC_info _ _ _)⟩) hHeld ?_ ?_
  rotate_left
  · simp only [Act.put, List.setIfInBounds_toArray, List.set_cons_zero, List.set_cons_succ]
    rfl
  refine take_ (i := 4) (N := some 31) (v := .agg (pixC r g b a)) (a' := ?_) #[true, true, false, true, true, false, false, false, false, false, false, false, false, false, false, false, false, false, false, false, false] rfl rfl (by kernel_rfl) (fun _ _ _ h => h) (Or.inl ⟨by rfl, fun w' s => exec_loadC rfl rfl s.2.1 rfl Try.underlying35 (by kernel_rfl)⟩) hHeld ?_ ?_
  rotate_left
  · simp only [Act.put, List.setIfInBounds_toArray, List.set_cons_zero, List.set_cons_succ]
    rfl
  refine one_ (i := 2) (N := some 29) #[true, true, true, true, true, false, false, false, false, false, false, false, false, false, false, false, false, false, false, false, false] rfl rfl (by kernel_rfl) (by decide) (fun K hK => ?_)
  refine goes_ Try.func26 (by kernel_rfl) rfl #[.agg (profC nm (.slice A l.length c) m), .agg (pixC r g b a)] (by rfl) rfl rfl (by simp only [List.map_toArray, List.map_cons, List.map_nil]; rfl) ?_
  refine (HL1.out _ HK.out).mono ?_
  rintro e W1 ⟨rfl, b1⟩
  refine ⟨_, rfl, ?_⟩
  have HK := Lib.hid (HK.out.trans (b1.mono (Nat.le_trans (Nat.le_of_eq HB.out.symm) HK.out.size)))
  have s0 := hHeld.1.kept b1 hHeld.1.lt
  have s1 := hHeld.2.1.kept b1 hHeld.2.1.lt
  have s3 := hHeld.2.2.1.kept b1 hHeld.2.2.1.lt
  have s4 := hHeld.2.2.2.kept b1 hHeld.2.2.2.lt
  refine hK.out _ _ ⟨s0, s1, s3, s4⟩ (fun hHeld => ?_)
  clear hK K b1
  refine norm_ (a' := ?_) ?_ ?_
  rotate_left
  · show Act.put _ (some 29) _ = _
    simp only [Act.put, List.setIfInBounds_toArray, List.set_cons_zero, List.set_cons_succ]
    rfl
  refine one_ (i := 5) (N := some 32) #[true, true, true, true, true, true, false, false, false, false, false, false, false, false, false, false, false, false, false, false, false] rfl rfl (by kernel_rfl) (by decide) (fun K hK => ?_)
  refine goes_ Try.func27 (by kernel_rfl) rfl #[.agg (profC nm (.slice A l.length c) m), .agg (pixC r g b a)] (by rfl) rfl rfl (by simp only [List.map_toArray, List.map_cons, List.map_nil]; rfl) ?_
  refine (HL2.out _ HK.out).mono ?_
  rintro e W1 ⟨rfl, b1⟩
  refine ⟨_, rfl, ?_⟩
  have HK := Lib.hid (HK.out.trans (b1.mono (Nat.le_trans (Nat.le_of_eq HB.out.symm) HK.out.size)))
  have s0 := hHeld.1.kept b1 hHeld.1.lt
  have s1 := hHeld.2.1.kept b1 hHeld.2.1.lt
  have s3 := hHeld.2.2.1.kept b1 hHeld.2.2.1.lt
  have s4 := hHeld.2.2.2.kept b1 hHeld.2.2.2.lt
  refine hK.out _ _ ⟨s0, s1, s3, s4⟩ (fun hHeld => ?_)
  clear hK K b1
  refine norm_ (a' := ?_) ?_ ?_
  rotate_left
  · show Act.put _ (some 32) _ = _
    simp only [Act.put, List.setIfInBounds_toArray, List.set_cons_zero, List.set_cons_succ]
    rfl
  refine pure_ (i := 6) (N := some 33) (v := .bool true) (a' := ?_) #[true, true, true, true, true, true, true, false, false, false, false, false, false, false, false, false, false, false, false, false, false] rfl rfl (by kernel_rfl) (fun _ _ _ h => h) (Or.inl ⟨by rfl, fun w' => exec_eq3 rfl rfl rfl⟩) ?_ ?_
  rotate_left
  · simp only [Act.put, List.setIfInBounds_toArray, List.set_cons_zero, List.set_cons_succ]
    rfl
  refine pure_ (i := 7) (N := some 34) (v := ?_) (a' := ?_) #[true, true, true, true, true, true, true, true, false, false, false, false, false, false, false, false, false, false, false, false, false] rfl rfl (by kernel_rfl) (fun _ _ _ h => h) (Or.inl ⟨by rfl, ?_⟩) ?_ ?_
  rotate_left
  · intro w'
    go_simp
    with_reducible rfl
  rotate_left
  · simp only [Act.put, List.setIfInBounds_toArray, List.set_cons_zero, List.set_cons_succ]
    rfl
  refine take_ (i := 8) (N := some 35) (v := .agg (pixF ep)) (a' := ?_) #[true, true, true, true, true, true, true, true, true, false, false, false, false, false, false, false, false, false, false, false, false] rfl rfl (by kernel_rfl) (fun _ _ _ h => h) (Or.inl ⟨by rfl, fun w' s => exec_loadC rfl rfl s.2.2.1 rfl Try.underlying35 (by kernel_rfl)⟩) hHeld ?_ ?_
  rotate_left
  · simp only [Act.put, List.setIfInBounds_toArray, List.set_cons_zero, List.set_cons_succ]
    rfl
  refine take_ (i := 9) (N := some 36) (v := .agg (pixF ep)) (a' := ?_) #[true, true, true, true, true, true, true, true, true, true, false, false, false, false, false, false, false, false, false, false, false] rfl rfl (by kernel_rfl) (fun _ _ _ h => h) (Or.inl ⟨by rfl, fun w' s => exec_loadC rfl rfl s.2.2.2 rfl Try.underlying35 (by kernel_rfl)⟩) hHeld ?_ ?_
  rotate_left
  · simp only [Act.put, List.setIfInBounds_toArray, List.set_cons_zero, List.set_cons_succ]
    rfl
  refine pure_ (i := 10) (N := some 37) (v := .bool true) (a' := ?_) #[true, true, true, true, true, true, true, true, true, true, true, false, false, false, false, false, false, false, false, false, false] rfl rfl (by kernel_rfl) (fun _ _ _ h => h) (Or.inl ⟨by rfl, fun w' => exec_eqX rfl rfl rfl⟩) ?_ ?_
  rotate_left
  · simp only [Act.put, List.setIfInBounds_toArray, List.set_cons_zero, List.set_cons_succ]
    rfl
  refine pure_ (i := 11) (N := some 38) (v := ?_) (a' := ?_) #[true, true, true, true, true, true, true, true, true, true, true, true, false, false, false, false, false, false, false, false, false] rfl rfl (by kernel_rfl) (fun _ _ _ h => h) (Or.inl ⟨by rfl, ?_⟩) ?_ ?_
  rotate_left
  · intro w'
    go_simp
    with_reducible rfl
  rotate_left
  · simp only [Act.put, List.setIfInBounds_toArray, List.set_cons_zero, List.set_cons_succ]
    rfl
  refine pure_ (i := 12) (N := some 39) (v := ?_) (a' := ?_) #[true, true, true, true, true, true, true, true, true, true, true, true, true, false, false, false, false, false, false, false, false] rfl rfl (by kernel_rfl) (fun _ _ _ h => h) (Or.inl ⟨by rfl, ?_⟩) ?_ ?_
  rotate_left
  · intro w'
    go_simp
    with_reducible rfl
  rotate_left
  · simp only [Act.put, List.setIfInBounds_toArray, List.set_cons_zero, List.set_cons_succ]
    rfl
  refine pure_ (i := 13) (N := some 40) (v := ?_) (a' := ?_) #[true, true, true, true, true, true, true, true, true, true, true, true, true, true, false, false, false, false, false, false, false] rfl rfl (by kernel_rfl) (fun _ _ _ h => h) (Or.inl ⟨by rfl, ?_⟩) ?_ ?_
  rotate_left
  · intro w'
    go_simp
    with_reducible rfl
  rotate_left
  · simp only [Act.put, List.setIfInBounds_toArray, List.set_cons_zero, List.set_cons_succ]
    rfl
  refine pure_ (i := 14) (N := some 41) (v := ?_) (a' := ?_) #[true, true, true, true, true, true, true, true, true, true, true, true, true, true, true, false, false, false, false, false, false] rfl rfl (by kernel_rfl) (fun _ _ _ h => h) (Or.inl ⟨by rfl, ?_⟩) ?_ ?_
  rotate_left
  · intro w'
    go_simp
    with_reducible rfl
  rotate_left
  · simp only [Act.put, List.setIfInBounds_toArray, List.set_cons_zero, List.set_cons_succ]
    rfl
  refine pure_ (i := 15) (N := some 42) (v := .bool true) (a' := ?_) #[true, true, true, true, true, true, true, true, true, true, true, true, true, true, true, true, false, false, false, false, false] rfl rfl (by kernel_rfl) (fun _ _ _ h => h) (Or.inl ⟨by rfl, fun w' => exec_eqE rfl rfl rfl⟩) ?_ ?_
  rotate_left
  · simp only [Act.put, List.setIfInBounds_toArray, List.set_cons_zero, List.set_cons_succ]
    rfl
  refine pure_ (i := 16) (N := some 43) (v := ?_) (a' := ?_) #[true, true, true, true, true, true, true, true, true, true, true, true, true, true, true, true, true, false, false, false, false] rfl rfl (by kernel_rfl) (fun _ _ _ h => h) (Or.inl ⟨by rfl, ?_⟩) ?_ ?_
  rotate_left
  · intro w'
    go_simp
    with_reducible rfl
  rotate_left
  · simp only [Act.put, List.setIfInBounds_toArray, List.set_cons_zero, List.set_cons_succ]
    rfl
  refine pure_ (i := 17) (N := some 44) (v := ?_) (a' := ?_) #[true, true, true, true, true, true, true, true, true, true, true, true, true, true, true, true, true, true, false, false, false] rfl rfl (by kernel_rfl) (fun _ _ _ h => h) (Or.inl ⟨by rfl, ?_⟩) ?_ ?_
  rotate_left
  · intro w'
    go_simp
    with_reducible rfl
  rotate_left
  · simp only [Act.put, List.setIfInBounds_toArray, List.set_cons_zero, List.set_cons_succ]
    rfl
  refine one_ (i := 18) (N := some 45) #[true, true, true, true, true, true, true, true, true, true, true, true, true, true, true, true, true, true, true, false, false] rfl rfl (by kernel_rfl) (by decide) (fun K hK => ?_)
  refine goes_ Try.func13 (by kernel_rfl) rfl #[] (by rfl) rfl rfl (by simp only [List.map_toArray, List.map_nil]) ?_
  refine (awake_true _).mono ?_
  rintro e W1 ⟨rfl, b1⟩
  refine ⟨_, rfl, ?_⟩
  have HK := Lib.hid (HK.out.trans (b1.mono (Nat.le_trans (Nat.le_of_eq HB.out.symm) HK.out.size)))
  have s0 := hHeld.1.kept b1 hHeld.1.lt
  have s1 := hHeld.2.1.kept b1 hHeld.2.1.lt
  have s3 := hHeld.2.2.1.kept b1 hHeld.2.2.1.lt
  have s4 := hHeld.2.2.2.kept b1 hHeld.2.2.2.lt
  refine hK.out _ _ ⟨s0, s1, s3, s4⟩ (fun hHeld => ?_)
  clear hK K b1
  refine norm_ (a' := ?_) ?_ ?_
  rotate_left
  · show Act.put _ (some 45) _ = _
    simp only [Act.put, List.setIfInBounds_toArray, List.set_cons_zero, List.set_cons_succ]
    rfl
  refine pure_ (i := 19) (N := some 46) (v := ?_) (a' := ?_) #[true, true, true, true, true, true, true, true, true, true, true, true, true, true, true, true, true, true, true, true, false] rfl rfl (by kernel_rfl) (fun _ _ _ h => h) (Or.inl ⟨by rfl, ?_⟩) ?_ ?_
  rotate_left
  · intro w'
    go_simp
    with_reducible rfl
  rotate_left
  · simp only [Act.put, List.setIfInBounds_toArray, List.set_cons_zero, List.set_cons_succ]
    rfl
  refine pure_ (i := 20) (N := some 6) (v := ?_) (a' := ?_) #[true, true, true, true, true, true, true, true, true, true, true, true, true, true, true, true, true, true, true, true, true] rfl rfl (by kernel_rfl) (fun _ _ _ h => h) (Or.inl ⟨by rfl, ?_⟩) ?_ ?_
  rotate_left
  · intro w'
    go_simp
    with_reducible rfl
  rotate_left
  · simp only [Act.put, List.setIfInBounds_toArray, List.set_cons_zero, List.set_cons_succ]
    rfl
  refine done_ (by kernel_rfl) ?_
  go_wp2
  go_ret
  exact ⟨rfl, by rw [HB.out]; exact HK.out⟩
end Go.Proofs.Ytlpfepcmpccbeaa.Lw
