import Derived.Test.YtlpfepcmpccbeaaZV
import Derived.Test.YtlpfepcmpccbeaaZLc4
import Derived.Test.YtlpfepcmpccbeaaZJ
/-
  The law ProfileImages: its walk.
-/
namespace Go.Proofs.Ytlpfepcmpccbeaa.Lw
open Go.RowKit Go.Proofs.Ytlpfepcmpccbeaa.Im Go.Proofs.Ytlpfepcmpccbeaa.NM Go.Proofs.Ytlpfepcmpccbeaa.Cv Go.Proofs.Ytlpfepcmpccbeaa.Wi Go.Proofs.Ytlpfepcmpccbeaa.Nm9 Go.Proofs.Ytlpfepcmpccbeaa.Mx Go.Proofs.Ytlpfepcmpccbeaa.Pf Go.Proofs.Ytlpfepcmpccbeaa.Pt Go.Proofs.Ytlpfepcmpccbeaa.Aw Go.Proofs.Ytlpfepcmpccbeaa.PNum Go.Proofs.YtlpfepcmpccbeaaW.PrintWords Go.Proofs.YtlpfepcmpccbeaaW.PrintMore Go.Proofs.YtlpfepcmpccbeaaW.PrintLast
attribute [local go_sem] eq9 eq3
attribute [local go_sem high] eqA35
set_option linter.unusedVariables false
theorem imgE_0 {b W H : Int} {l : List Px} (h : imgE b W H l = 0) : b = 0 := by
  unfold imgE at h
  by_cases hb : b = 0
  · exact hb
  · rw [if_neg hb] at h; exact h
theorem img_zero {E : Int} (h : E ≠ 0) (W H : Int) (l : List Px) : imgW E W = 0 ∧ imgW E H = 0 ∧ imgL E l = [] := by
  unfold imgW imgL
  rw [if_neg h, if_neg h, if_neg h]
  exact ⟨rfl, rfl, rfl⟩
theorem rd_map (f : Px → Px) (l : List Px) (i : Nat) (h : i < l.length) : rd_T35 (l.map f) (i : Int) = f (rd_T35 l (i : Int)) := by
  rw [rdX l i h, rdX _ i (by rw [List.length_map]; exact h), List.getElem_map]
theorem exec_neX {o : Oper} {a : Act} {w : World} {x y : Operand} {p q r s : Int} (ho : o.op = .binOp .neq 35 x y 35) (hx : a.eval x = .agg #[.int .i64 p, .int .i64 q, .int .i64 r, .int .i64 s]) (hy : a.eval y = .agg #[.int .i64 p, .int .i64 q, .int .i64 r, .int .i64 s]) : (execOp a.eval o).run Try.prog w = .ok (.value (.bool false)) w := by
  unfold execOp
  rw [ho]
  simp only [hx, hy]
  go_simp
set_option maxRecDepth 20000 in
set_option maxHeartbeats 8000000 in
theorem images_true (nm : ByteArray) (A : Option Addr) (c : Nat) (l : List Kn) (m : Nat → Int) (nm' : ByteArray) (A' : Option Addr) (c' : Nat) (l' : List Kn) (m' : Nat → Int) (W H : Int) (Ax : Option Addr) (cx : Nat) (px : List Px) (w : World) (hs : nm.size ≤ 140737488355232) (hl : l.length ≤ 140737488355232) (hr : Kd.C k72 w A l.length l) (hc : l.length ≤ c) (hs' : nm'.size ≤ 140737488355232) (hl' : l'.length ≤ 140737488355232) (hr' : Kd.C k72 w A' l'.length l') (hc' : l'.length ≤ c') (hx : Kd.C k35 w Ax px.length px) (hcx : px.length ≤ cx) :
    Calls Try.prog 3 #[.agg (profC nm (.slice A l.length c) m), .agg (profC nm' (.slice A' l'.length c') m'), .agg (imgC W H (.slice Ax px.length cx))] w fun e w' => e = .returned (.bool true) ∧ Below w.heap.size w w' := by
  have hmx : px.length ≤ 9223372036854775807 := Kd.C_max hx
  have HI1 : Hid (∀ w', Below w.heap.size w w' → Calls Try.prog 10 #[.agg (profC nm (.slice A l.length c) m), .agg (profC nm' (.slice A' l'.length c') m'), .agg (imgC W H (.slice Ax px.length cx))] w' fun e w'' => ∃ A2 c2, e = .returned (.tuple #[.agg (imgC (imgW (imgE (bothC nm l m nm' l' m') W H px) W) (imgW (imgE (bothC nm l m nm' l' m') W H px) H) (.slice A2 (imgL (imgE (bothC nm l m nm' l' m') W H px) (px.map (cvP nm l m nm' l' m'))).length c2)), .int .i64 (imgE (bothC nm l m nm' l' m') W H px)]) ∧ Kd.C k35 w'' A2 (imgL (imgE (bothC nm l m nm' l' m') W H px) (px.map (cvP nm l m nm' l' m'))).length (imgL (imgE (bothC nm l m nm' l' m') W H px) (px.map (cvP nm l m nm' l' m'))) ∧ (imgL (imgE (bothC nm l m nm' l' m') W H px) (px.map (cvP nm l m nm' l' m'))).length ≤ c2 ∧ Below w'.heap.size w' w'') := fun w' hb => pImage_any nm A c l m nm' A' c' l' m' W H Ax cx px w' hs hl (Kd.C_below hr hb) hc hs' (Kd.C_below hr' hb) hc' (Kd.C_below hx hb) hcx
  have HI2 : Hid (∀ w', Below w.heap.size w w' → Calls Try.prog 11 #[.agg (profC nm (.slice A l.length c) m), .agg (profC nm' (.slice A' l'.length c') m'), .agg (imgC W H (.slice Ax px.length cx))] w' fun e w'' => ∃ A2 c2, e = .returned (.tuple #[.agg (imgC (imgW (imgE (bothC nm l m nm' l' m') W H px) W) (imgW (imgE (bothC nm l m nm' l' m') W H px) H) (.slice A2 (imgL (imgE (bothC nm l m nm' l' m') W H px) (px.map (cvP nm l m nm' l' m'))).length c2)), .int .i64 (imgE (bothC nm l m nm' l' m') W H px)]) ∧ Kd.C k35 w'' A2 (imgL (imgE (bothC nm l m nm' l' m') W H px) (px.map (cvP nm l m nm' l' m'))).length (imgL (imgE (bothC nm l m nm' l' m') W H px) (px.map (cvP nm l m nm' l' m'))) ∧ (imgL (imgE (bothC nm l m nm' l' m') W H px) (px.map (cvP nm l m nm' l' m'))).length ≤ c2 ∧ Below w'.heap.size w' w'') := fun w' hb => rImage_any nm A c l m nm' A' c' l' m' W H Ax cx px w' hs hl (Kd.C_below hr hb) hc hs' (Kd.C_below hr' hb) hc' (Kd.C_below hx hb) hcx
  have HR : Hid (∀ (p : Px) w', Below w.heap.size w w' → Calls Try.prog 14 #[.agg (profC nm (.slice A l.length c) m), .agg (profC nm' (.slice A' l'.length c') m'), .agg (pixC p.f0 p.f1 p.f2 p.f3)] w' fun e w'' => e = .returned (.tuple #[.agg (pixF (convP nm l m nm' l' m' p.f0 p.f1 p.f2 p.f3)), .int .i64 (bothC nm l m nm' l' m')]) ∧ Below w'.heap.size w' w'') := fun p w' hb => pConvert_any nm A c l m nm' A' c' l' m' p.f0 p.f1 p.f2 p.f3 w' hs hl (Kd.C_below hr hb) hc hs' (Kd.C_below hr' hb) hc'
  have HX : Hid (∀ w', Below w.heap.size w w' → Kd.C k35 w' Ax px.length px) := fun w' hb => Kd.C_below hx hb
  have HCV : Hid (∀ p, (cvP nm l m nm' l' m') p = pxF (convP nm l m nm' l' m' p.f0 p.f1 p.f2 p.f3)) := fun p => rfl
  have HPC : Hid ((imgE (bothC nm l m nm' l' m') W H px) = 0 → (bothC nm l m nm' l' m') = 0) := imgE_0
  have HZ : Hid ((imgE (bothC nm l m nm' l' m') W H px) ≠ 0 → imgW (imgE (bothC nm l m nm' l' m') W H px) W = 0 ∧ imgW (imgE (bothC nm l m nm' l' m') W H px) H = 0 ∧ (imgL (imgE (bothC nm l m nm' l' m') W H px) (px.map (cvP nm l m nm' l' m'))) = []) := fun h => img_zero h W H _
  have HL1 : Hid ((imgE (bothC nm l m nm' l' m') W H px) = 0 → (imgL (imgE (bothC nm l m nm' l' m') W H px) (px.map (cvP nm l m nm' l' m'))) = px.map (cvP nm l m nm' l' m')) := fun h => by unfold imgL; rw [if_pos h]
  generalize (cvP nm l m nm' l' m') = cv at *
  generalize (imgL (imgE (bothC nm l m nm' l' m') W H px) (px.map cv)) = L1 at *
  generalize imgW (imgE (bothC nm l m nm' l' m') W H px) W = W1 at *
  generalize imgW (imgE (bothC nm l m nm' l' m') W H px) H = H1 at *
  generalize (imgE (bothC nm l m nm' l' m') W H px) = ie at *
  generalize (bothC nm l m nm' l' m') = pc at *
  go_enter Try.func3, Try.ntmps3
  go_upto_region 1 with fail
  have h0 : holdsC (((w.alloc (.cells (profC nm (.slice A l.length c) m) 25)).alloc (.cells (profC nm' (.slice A' l'.length c') m') 25)).alloc (.cells (imgC W H (.slice Ax px.length cx)) 28)) w.heap.size 25 (profC nm (.slice A l.length c) m) := by
    have h : holdsC (w.alloc (.cells (profC nm (.slice A l.length c) m) 25)) w.heap.size 25 (profC nm (.slice A l.length c) m) := heap_alloc_new _ _
    have h := ((h.alloc (.cells (profC nm' (.slice A' l'.length c') m') 25)).alloc (.cells (imgC W H (.slice Ax px.length cx)) 28))
    exact h
  have h1 : holdsC (((w.alloc (.cells (profC nm (.slice A l.length c) m) 25)).alloc (.cells (profC nm' (.slice A' l'.length c') m') 25)).alloc (.cells (imgC W H (.slice Ax px.length cx)) 28)) (w.heap.size + 1) 25 (profC nm' (.slice A' l'.length c') m') := by
    have h : holdsC ((w.alloc (.cells (profC nm (.slice A l.length c) m) 25)).alloc (.cells (profC nm' (.slice A' l'.length c') m') 25)) (w.alloc (.cells (profC nm (.slice A l.length c) m) 25)).heap.size 25 (profC nm' (.slice A' l'.length c') m') := heap_alloc_new _ _
    have h := (h.alloc (.cells (imgC W H (.slice Ax px.length cx)) 28))
    simpa using h
  have h2 : holdsC (((w.alloc (.cells (profC nm (.slice A l.length c) m) 25)).alloc (.cells (profC nm' (.slice A' l'.length c') m') 25)).alloc (.cells (imgC W H (.slice Ax px.length cx)) 28)) (w.heap.size + 1 + 1) 28 (imgC W H (.slice Ax px.length cx)) := by
    have h : holdsC (((w.alloc (.cells (profC nm (.slice A l.length c) m) 25)).alloc (.cells (profC nm' (.slice A' l'.length c') m') 25)).alloc (.cells (imgC W H (.slice Ax px.length cx)) 28)) ((w.alloc (.cells (profC nm (.slice A l.length c) m) 25)).alloc (.cells (profC nm' (.slice A' l'.length c') m') 25)).heap.size 28 (imgC W H (.slice Ax px.length cx)) := heap_alloc_new _ _
    have h := h
    simpa using h
  have hb : Below w.heap.size w (((w.alloc (.cells (profC nm (.slice A l.length c) m) 25)).alloc (.cells (profC nm' (.slice A' l'.length c') m') 25)).alloc (.cells (imgC W H (.slice Ax px.length cx)) 28)) := ((((Below.refl _ _).alloc (Nat.le_refl _) _).alloc (by simp) _).alloc (by simp; omega) _)
  generalize (((w.alloc (.cells (profC nm (.slice A l.length c) m) 25)).alloc (.cells (profC nm' (.slice A' l'.length c') m') 25)).alloc (.cells (imgC W H (.slice Ax px.length cx)) 28)) = wc at *
  generalize hB : w.heap.size = B at *
  have HB := Lib.hid hB
  clear hB
  go_wp2_with (first
    | (refine wpList_load_row rfl 25 (.tmp 3) rfl B rfl 25 (profC nm (.slice A l.length c) m) (0, 0) _ h0 Try.underlying25 rfl (profC_info _ _ _) ?_)
    | (refine wpList_load_row rfl 25 (.tmp 4) rfl (B + 1) rfl 25 (profC nm' (.slice A' l'.length c') m') (0, 0) _ h1 Try.underlying25 rfl (profC_info _ _ _) ?_)
    | (refine wpList_load_row rfl 28 (.tmp 5) rfl (B + 1 + 1) rfl 28 (imgC W H (.slice Ax px.length cx)) (0, 0) _ h2 Try.underlying28 rfl (by kernel_rfl) ?_))
  refine (HI1.out _ hb).mono ?_; rintro e w1 ⟨A1_, c1_, rfl, hC1, hk1, b1⟩
  have g0_ := h0.kept b1 h0.lt
  have g1_ := h1.kept b1 h1.lt
  have g2_ := h2.kept b1 h2.lt
  have gb_ := hb.trans (b1.mono (Nat.le_trans (Nat.le_of_eq HB.out.symm) hb.size))
  clear h0 h1 h2 hb b1
  have bq : Below w1.heap.size w1 ((w1.alloc (.cells #[.int .i64 0, .int .i64 0, .slice none 0 0] 28)).setRow w1.heap.size (imgC W1 H1 (.slice A1_ L1.length c1_))) := below_setRow ((Below.refl _ _).alloc (Nat.le_refl _) (.cells #[.int .i64 0, .int .i64 0, .slice none 0 0] 28)) (Nat.le_refl _) (imgC W1 H1 (.slice A1_ L1.length c1_))
  have hC1 := Kd.C_below hC1 bq
  clear bq
  have H3 : holdsC (w1.alloc (.cells #[.int .i64 0, .int .i64 0, .slice none 0 0] 28)) w1.heap.size 28 #[.int .i64 0, .int .i64 0, .slice none 0 0] := heap_alloc_new _ _
  have k0_ := (g0_.alloc (.cells #[.int .i64 0, .int .i64 0, .slice none 0 0] 28)).setRowOther (g' := w1.heap.size) (by have := g0_.lt; omega) (imgC W1 H1 (.slice A1_ L1.length c1_))
  have nk0_ : B < w1.heap.size := g0_.lt
  have k1_ := (g1_.alloc (.cells #[.int .i64 0, .int .i64 0, .slice none 0 0] 28)).setRowOther (g' := w1.heap.size) (by have := g1_.lt; omega) (imgC W1 H1 (.slice A1_ L1.length c1_))
  have nk1_ : (B + 1) < w1.heap.size := g1_.lt
  have k2_ := (g2_.alloc (.cells #[.int .i64 0, .int .i64 0, .slice none 0 0] 28)).setRowOther (g' := w1.heap.size) (by have := g2_.lt; omega) (imgC W1 H1 (.slice A1_ L1.length c1_))
  have nk2_ : (B + 1 + 1) < w1.heap.size := g2_.lt
  have k3_ := holdsC_row H3 (imgC W1 H1 (.slice A1_ L1.length c1_))
  have nq1 : B ≤ w1.heap.size := by rw [← HB.out]; exact gb_.size
  have kb_ := below_setRow (gb_.alloc nq1 (.cells #[.int .i64 0, .int .i64 0, .slice none 0 0] 28)) nq1 (imgC W1 H1 (.slice A1_ L1.length c1_))
  go_upto_region 2 with (first | (refine wpList_store_row rfl 28 (.tmp 7) (.tmp 19) rfl _ (imgC W1 H1 (.slice A1_ L1.length c1_)) rfl rfl 28 _ H3 (by kernel_rfl) rfl (by kernel_rfl) ?_))
  clear H3 g0_ g1_ g2_ gb_
  generalize (w1.alloc (.cells #[.int .i64 0, .int .i64 0, .slice none 0 0] 28)).setRow w1.heap.size (imgC W1 H1 (.slice A1_ L1.length c1_)) = w2 at *
  generalize w1.heap.size = q1 at *
  go_wp2_with (first
    | (refine wpList_load_row rfl 25 (.tmp 3) rfl B rfl 25 (profC nm (.slice A l.length c) m) (0, 0) _ k0_ Try.underlying25 rfl (profC_info _ _ _) ?_)
    | (refine wpList_load_row rfl 25 (.tmp 4) rfl (B + 1) rfl 25 (profC nm' (.slice A' l'.length c') m') (0, 0) _ k1_ Try.underlying25 rfl (profC_info _ _ _) ?_)
    | (refine wpList_load_row rfl 28 (.tmp 5) rfl (B + 1 + 1) rfl 28 (imgC W H (.slice Ax px.length cx)) (0, 0) _ k2_ Try.underlying28 rfl (by kernel_rfl) ?_))
  refine (HI2.out _ kb_).mono ?_; rintro e w3 ⟨A2_, c2_, rfl, hC2, hk2, b1⟩
  have u0_ := k0_.kept b1 k0_.lt
  have u1_ := k1_.kept b1 k1_.lt
  have u2_ := k2_.kept b1 k2_.lt
  have u3_ := k3_.kept b1 k3_.lt
  have ub_ := kb_.trans (b1.mono (Nat.le_trans (Nat.le_of_eq HB.out.symm) kb_.size))
  have hC1 := Kd.C_below hC1 b1
  clear k0_ k1_ k2_ k3_ kb_ b1
  have bq : Below w3.heap.size w3 ((w3.alloc (.cells #[.int .i64 0, .int .i64 0, .slice none 0 0] 28)).setRow w3.heap.size (imgC W1 H1 (.slice A2_ L1.length c2_))) := below_setRow ((Below.refl _ _).alloc (Nat.le_refl _) (.cells #[.int .i64 0, .int .i64 0, .slice none 0 0] 28)) (Nat.le_refl _) (imgC W1 H1 (.slice A2_ L1.length c2_))
  have hC1 := Kd.C_below hC1 bq
  have hC2 := Kd.C_below hC2 bq
  clear bq
  have H3 : holdsC (w3.alloc (.cells #[.int .i64 0, .int .i64 0, .slice none 0 0] 28)) w3.heap.size 28 #[.int .i64 0, .int .i64 0, .slice none 0 0] := heap_alloc_new _ _
  have v0_ := (u0_.alloc (.cells #[.int .i64 0, .int .i64 0, .slice none 0 0] 28)).setRowOther (g' := w3.heap.size) (by have := u0_.lt; omega) (imgC W1 H1 (.slice A2_ L1.length c2_))
  have nv0_ : B < w3.heap.size := u0_.lt
  have v1_ := (u1_.alloc (.cells #[.int .i64 0, .int .i64 0, .slice none 0 0] 28)).setRowOther (g' := w3.heap.size) (by have := u1_.lt; omega) (imgC W1 H1 (.slice A2_ L1.length c2_))
  have nv1_ : (B + 1) < w3.heap.size := u1_.lt
  have v2_ := (u2_.alloc (.cells #[.int .i64 0, .int .i64 0, .slice none 0 0] 28)).setRowOther (g' := w3.heap.size) (by have := u2_.lt; omega) (imgC W1 H1 (.slice A2_ L1.length c2_))
  have nv2_ : (B + 1 + 1) < w3.heap.size := u2_.lt
  have v3_ := (u3_.alloc (.cells #[.int .i64 0, .int .i64 0, .slice none 0 0] 28)).setRowOther (g' := w3.heap.size) (by have := u3_.lt; omega) (imgC W1 H1 (.slice A2_ L1.length c2_))
  have nv3_ : q1 < w3.heap.size := u3_.lt
  have v4_ := holdsC_row H3 (imgC W1 H1 (.slice A2_ L1.length c2_))
  have nq2 : B ≤ w3.heap.size := by rw [← HB.out]; exact ub_.size
  have vb_ := below_setRow (ub_.alloc nq2 (.cells #[.int .i64 0, .int .i64 0, .slice none 0 0] 28)) nq2 (imgC W1 H1 (.slice A2_ L1.length c2_))
  go_upto_region 3 with (first | (refine wpList_store_row rfl 28 (.tmp 9) (.tmp 26) rfl _ (imgC W1 H1 (.slice A2_ L1.length c2_)) rfl rfl 28 _ H3 (by kernel_rfl) rfl (by kernel_rfl) ?_))
  clear H3 u0_ u1_ u2_ u3_ ub_
  generalize (w3.alloc (.cells #[.int .i64 0, .int .i64 0, .slice none 0 0] 28)).setRow w3.heap.size (imgC W1 H1 (.slice A2_ L1.length c2_)) = w4 at *
  generalize w3.heap.size = q2 at *
  have nn : ∀ x : Int, (x != x) = false := fun x => by simp
  go_wp2_with (first
    | (refine wpList_load_row rfl 28 (.tmp 7) rfl q1 rfl 28 (imgC W1 H1 (.slice A1_ L1.length c1_)) (0, 0) _ v3_ Try.underlying28 rfl (by kernel_rfl) ?_)
    | (refine wpList_load_row rfl 28 (.tmp 9) rfl q2 rfl 28 (imgC W1 H1 (.slice A2_ L1.length c2_)) (0, 0) _ v4_ Try.underlying28 rfl (by kernel_rfl) ?_))
  refine (same_any W1 H1 A1_ c1_ L1 A2_ c2_ _ hC1 hk1 hC2 hk2).mono ?_; rintro e w5 ⟨rfl, b1⟩
  have x0_ := v0_.kept b1 v0_.lt
  have x1_ := v1_.kept b1 v1_.lt
  have x2_ := v2_.kept b1 v2_.lt
  have x3_ := v3_.kept b1 v3_.lt
  have x4_ := v4_.kept b1 v4_.lt
  have xb_ := vb_.trans (b1.mono (Nat.le_trans (Nat.le_of_eq HB.out.symm) vb_.size))
  have hC1 := Kd.C_below hC1 b1
  clear hC2 hk2
  clear v0_ v1_ v2_ v3_ v4_ vb_ b1
  go_wp2_with fail
  refine (awake_true _).mono ?_; rintro e w6 ⟨rfl, b1⟩
  have y0_ := x0_.kept b1 x0_.lt
  have y1_ := x1_.kept b1 x1_.lt
  have y2_ := x2_.kept b1 x2_.lt
  have y3_ := x3_.kept b1 x3_.lt
  have y4_ := x4_.kept b1 x4_.lt
  have yb_ := xb_.trans (b1.mono (Nat.le_trans (Nat.le_of_eq HB.out.symm) xb_.size))
  have hC1 := Kd.C_below hC1 b1
  clear x0_ x1_ x2_ x3_ x4_ xb_ b1
  clear nn
  by_cases hie : ie = 0
  · have hne : (ie != 0) = false := by simpa using hie
    obtain rfl : L1 = px.map cv := HL1.out hie
    obtain rfl : pc = 0 := HPC.out hie
    have hln : ((px.map cv).length : Int) = (px.length : Int) := by simp
    have c2 := y3_.cell 2 (.slice A1_ (px.map cv).length c1_) rfl
    have d2 := y2_.cell 2 (.slice Ax px.length cx) rfl
    rw [List.length_map] at c2 hC1 hk1
    have y0 := y0_
    have y1 := y1_
    have y2 := y2_
    have y3 : holdsC w6 q1 28 (imgC W1 H1 (.slice A1_ px.length c1_)) := by rw [← List.length_map (f := cv)]; exact y3_
    have yb := yb_
    clear y0_ y1_ y2_ y3_ y4_ yb_ HZ HL1 HPC HI1 HI2 hln
    obtain ⟨w40, hw40⟩ : ∃ x : World, x = w6 := ⟨_, rfl⟩
    subst hw40
    go_wp2_with fail
    go_loopw [11, 12, 13, 67] (fun _ _ _ v67 wr => ∃ i : Nat, i ≤ px.length ∧ v67 = .int .i64 i ∧ Below w40.heap.size w40 wr) (fun _ _ _ v _ => px.length - (intOf v).toNat)
    case atStart => exact ⟨0, by omega, rfl, Below.refl _ _⟩
    case round =>
      obtain ⟨i, hi, rfl, hs0⟩ := hrel
      obtain ⟨w20, hw20⟩ : ∃ w20 : World, w20 = wr := ⟨_, rfl⟩
      subst hw20
      have x0 := y0.kept hs0 y0.lt
      have x1 := y1.kept hs0 y1.lt
      have x2 := y2.kept hs0 y2.lt
      have x3 := y3.kept hs0 y3.lt
      have xb := yb.trans (hs0.mono (Nat.le_trans (Nat.le_of_eq HB.out.symm) yb.size))
      by_cases hil : i < px.length
      · have hd : decide ((i : Int) < (px.length : Int)) = true := decide_eq_true (by omega)
        have HRD : Hid (rd_T35 (px.map cv) (i : Int) = cv (rd_T35 px (i : Int))) := rd_map cv px i hil
        obtain ⟨ad, e5, z0, z1, z2, z3⟩ := at_T35 (HX.out w20 xb) (i : Int) (by omega) (by omega)
        cases e5
        have hC3 := hC1
        obtain ⟨ae, e6, _, _, _, _⟩ := at_T35 hC3 (i : Int) (by omega) (by omega)
        cases e6
        clear hC3
        simp only [Int.toNat_natCast] at z0 z1 z2 z3
        have p1 : (0 ≤ (i : Int)) = True := eq_true (by omega)
        have p2 : ((i : Int) < (px.length : Int)) = True := eq_true (by omega)
        have hcp := HCV.out (rd_T35 px (i : Int))
        have HRD2 := Lib.hid (HRD.out.trans hcp)
        clear hcp HRD
        generalize rd_T35 px (i : Int) = p at *
        have HR1 := Lib.hid (fun w' hb => HR.out p w' hb)
        generalize (convP nm l m nm' l' m' p.f0 p.f1 p.f2 p.f3) = ep at *
        go_upto_region 12 with fail
        go_cut [12, 13] (fun v12 v13 wd => ∃ G : Nat, v12 = .pointer (some ⟨G, 0, none⟩) ∧ v13 = .int .i64 0 ∧ holdsC wd G 35 #[.int .i64 (ep 0), .int .i64 (ep 1), .int .i64 (ep 2), .int .i64 (ep 3)] ∧ Below w40.heap.size w40 wd)
        case first =>
          clear c2 d2
          refine start_ (n := 14) (S := fun w' => holdsC w' B 25 (profC nm (.slice A l.length c) m) ∧ holdsC w' (B + 1) 25 (profC nm' (.slice A' l'.length c') m') ∧ holdsC w' (B + 1 + 1) 28 (imgC W H (.slice (some ad) px.length cx)) ∧ w'.cell? (ad.add (i * 4)) = some (.int .i64 p.f0) ∧ w'.cell? ⟨(ad.add (i * 4)).block, (ad.add (i * 4)).off + 1, none⟩ = some (.int .i64 p.f1) ∧ w'.cell? ⟨(ad.add (i * 4)).block, (ad.add (i * 4)).off + 2, none⟩ = some (.int .i64 p.f2) ∧ w'.cell? ⟨(ad.add (i * 4)).block, (ad.add (i * 4)).off + 3, none⟩ = some (.int .i64 p.f3)) (ds := [12]) #[false, false, false, false, false, false, false, false, false, false, false, false, false, false] (by kernel_rfl) rfl rfl ⟨x0, x1, x2, z0, z1, z2, z3⟩ (fun hHeld => ?_)
          have xb := xb.drew
          have xs := hs0.drew
          clear x0 x1 x2 x3 z0 z1 z2 z3 hs0
          generalize w20.drew = W0 at *
          refine take_ (i := 0) (N := some 71) (v := .agg (profC nm (.slice A l.length c) m)) (a' := ?_) #[true, false, false, false, false, false, false, false, false, false, false, false, false, false] rfl rfl (by kernel_rfl) (fun _ _ _ h => h) (Or.inl ⟨by rfl, fun w' s => exec_loadC rfl rfl s.1 rfl Try.underlying25 (profC_info _ _ _)⟩) hHeld ?_ ?_
          rotate_left
          · simp only [Act.put, List.setIfInBounds_toArray, List.set_cons_zero, List.set_cons_succ]
            rfl
          refine take_ (i := 1) (N := some 72) (v := .agg (profC nm' (.slice A' l'.length c') m')) (a' := ?_) #[true, true, false, false, false, false, false, false, false, false, false, false, false, false] rfl rfl (by kernel_rfl) (fun _ _ _ h => h) (Or.inl ⟨by rfl, fun w' s => exec_loadC rfl rfl s.2.1 rfl Try.underlying25 (profC_info _ _ _)⟩) hHeld ?_ ?_
          rotate_left
          · simp only [Act.put, List.setIfInBounds_toArray, List.set_cons_zero, List.set_cons_succ]
            rfl
          refine pure_ (i := 2) (N := some 73) (v := ?_) (a' := ?_) #[true, true, true, false, false, false, false, false, false, false, false, false, false, false] rfl rfl (by kernel_rfl) (fun _ _ _ h => h) (Or.inl ⟨by rfl, ?_⟩) ?_ ?_
          rotate_left
          · intro w'
            go_simp
            with_reducible rfl
          rotate_left
          · simp only [Act.put, List.setIfInBounds_toArray, List.set_cons_zero, List.set_cons_succ]
            rfl
          refine take_ (i := 3) (N := some 74) (v := ?_) (a' := ?_) #[true, true, true, true, false, false, false, false, false, false, false, false, false, false] rfl rfl (by kernel_rfl) (fun _ _ _ h => h) (Or.inl ⟨by rfl, ?_⟩) hHeld ?_ ?_
          rotate_left
          · rintro w' ⟨s0, s1, s2, t0, t1, t2, t3⟩
            have c1_ := s2.cell 2 (.slice (some ad) px.length cx) rfl
            go_simp
            with_reducible rfl
          rotate_left
          · simp only [Act.put, List.setIfInBounds_toArray, List.set_cons_zero, List.set_cons_succ]
            rfl
          refine pure_ (i := 4) (N := some 75) (v := ?_) (a' := ?_) #[true, true, true, true, true, false, false, false, false, false, false, false, false, false] rfl rfl (by kernel_rfl) (fun _ _ _ h => h) (Or.inl ⟨by rfl, ?_⟩) ?_ ?_
          rotate_left
          · intro w'
            go_simp
            with_reducible rfl
          rotate_left
          · simp only [Act.put, List.setIfInBounds_toArray, List.set_cons_zero, List.set_cons_succ]
            rfl
          refine pure_ (i := 5) (N := some 76) (v := ?_) (a' := ?_) #[true, true, true, true, true, true, false, false, false, false, false, false, false, false] rfl rfl (by kernel_rfl) (fun _ _ _ h => h) (Or.inl ⟨by rfl, ?_⟩) ?_ ?_
          rotate_left
          · intro w'
            go_simp
            with_reducible rfl
          rotate_left
          · simp only [Act.put, List.setIfInBounds_toArray, List.set_cons_zero, List.set_cons_succ]
            rfl
          refine take_ (i := 6) (N := some 77) (v := ?_) (a' := ?_) #[true, true, true, true, true, true, true, false, false, false, false, false, false, false] rfl rfl (by kernel_rfl) (fun _ _ _ h => h) (Or.inl ⟨by rfl, ?_⟩) hHeld ?_ ?_
          rotate_left
          · rintro w' ⟨s0, s1, s2, t0, t1, t2, t3⟩
            go_simp
            with_reducible rfl
          rotate_left
          · simp only [Act.put, List.setIfInBounds_toArray, List.set_cons_zero, List.set_cons_succ]
            rfl
          obtain ⟨x0, x1, x2, z0, z1, z2, z3⟩ := hHeld
          refine twoR_ (i := 7) (j := 11) (Ni := some 78) (Nj := some 12) #[true, true, true, true, true, true, true, true, false, false, false, false, false, false] #[true, true, true, true, true, true, true, false, false, false, false, true, false, false] rfl rfl rfl rfl (by kernel_rfl) (by decide) (by decide) (fun K hK => ?_) (fun K hK => ?_)
          · skip
            refine goes_ Try.func14 (by kernel_rfl) rfl #[.agg (profC nm (.slice A l.length c) m), .agg (profC nm' (.slice A' l'.length c') m'), .agg (pixC p.f0 p.f1 p.f2 p.f3)] (by rfl) rfl rfl (by simp only [List.map_toArray, List.map_cons, List.map_nil]; rfl) ?_
            refine (HR1.out _ xb).mono ?_
            rintro e V1 ⟨rfl, b1⟩
            refine ⟨_, rfl, ?_⟩
            have x0 := x0.kept b1 x0.lt
            have x1 := x1.kept b1 x1.lt
            have x2 := x2.kept b1 x2.lt
            have z0 := pw_cell_below b1 z0
            have z1 := pw_cell_below b1 z1
            have z2 := pw_cell_below b1 z2
            have z3 := pw_cell_below b1 z3
            have xb := xb.trans (b1.mono (Nat.le_trans (Nat.le_of_eq HB.out.symm) xb.size))
            have xs := xs.trans (b1.mono xs.size)
            refine hK.out _ _ ⟨x0, x1, x2, z0, z1, z2, z3⟩ (fun hHeld => ?_)
            clear hK K b1 hHeld
            refine norm_ (a' := ?_) ?_ ?_
            rotate_left
            · show Act.put _ (some 78) _ = _
              simp only [Act.put, List.setIfInBounds_toArray, List.set_cons_zero, List.set_cons_succ]
              rfl
            refine pure_ (i := 8) (N := some 70) (v := ?_) (a' := ?_) #[true, true, true, true, true, true, true, true, true, false, false, false, false, false] rfl rfl (by kernel_rfl) (fun _ _ _ h => h) (Or.inl ⟨by rfl, ?_⟩) ?_ ?_
            rotate_left
            · intro w'
              go_simp
              with_reducible rfl
            rotate_left
            · simp only [Act.put, List.setIfInBounds_toArray, List.set_cons_zero, List.set_cons_succ]
              rfl
            refine pure_ (i := 9) (N := some 79) (v := ?_) (a' := ?_) #[true, true, true, true, true, true, true, true, true, true, false, false, false, false] rfl rfl (by kernel_rfl) (fun _ _ _ h => h) (Or.inl ⟨by rfl, ?_⟩) ?_ ?_
            rotate_left
            · intro w'
              go_simp
              with_reducible rfl
            rotate_left
            · simp only [Act.put, List.setIfInBounds_toArray, List.set_cons_zero, List.set_cons_succ]
              rfl
            refine pure_ (i := 10) (N := some 80) (v := ?_) (a' := ?_) #[true, true, true, true, true, true, true, true, true, true, true, false, false, false] rfl rfl (by kernel_rfl) (fun _ _ _ h => h) (Or.inl ⟨by rfl, ?_⟩) ?_ ?_
            rotate_left
            · intro w'
              go_simp
              with_reducible rfl
            rotate_left
            · simp only [Act.put, List.setIfInBounds_toArray, List.set_cons_zero, List.set_cons_succ]
              rfl
            refine one_ (i := 11) (N := some 12) #[true, true, true, true, true, true, true, true, true, true, true, true, false, false] rfl rfl (by kernel_rfl) (by decide) (fun K hK => ?_)
            refine value_ (by rfl) rfl (exec_newX rfl) ?_
            have gG : holdsC (V1.alloc (.cells #[.int .i64 0, .int .i64 0, .int .i64 0, .int .i64 0] 35)) V1.heap.size 35 #[.int .i64 0, .int .i64 0, .int .i64 0, .int .i64 0] := heap_alloc_new _ _
            have hG : Hid (w40.heap.size ≤ V1.heap.size) := xs.size
            have bz : Below V1.heap.size V1 (V1.alloc (.cells #[.int .i64 0, .int .i64 0, .int .i64 0, .int .i64 0] 35)) := below_alloc (Below.refl _ _) (.cells #[.int .i64 0, .int .i64 0, .int .i64 0, .int .i64 0] 35)
            have z0 := pw_cell_below bz z0
            have z1 := pw_cell_below bz z1
            have z2 := pw_cell_below bz z2
            have z3 := pw_cell_below bz z3
            have hBG : B < V1.heap.size := x0.lt
            have x0 := x0.alloc (.cells #[.int .i64 0, .int .i64 0, .int .i64 0, .int .i64 0] 35)
            have x1 := x1.alloc (.cells #[.int .i64 0, .int .i64 0, .int .i64 0, .int .i64 0] 35)
            have x2 := x2.alloc (.cells #[.int .i64 0, .int .i64 0, .int .i64 0, .int .i64 0] 35)
            replace xb := xb.alloc (Nat.le_of_lt hBG) (.cells #[.int .i64 0, .int .i64 0, .int .i64 0, .int .i64 0] 35)
            replace xs := xs.alloc hG.out (.cells #[.int .i64 0, .int .i64 0, .int .i64 0, .int .i64 0] 35)
            clear bz
            refine hK.out _ _ ⟨x0, x1, x2, z0, z1, z2, z3⟩ (fun hHeld => ?_)
            clear hK K hHeld
            refine norm_ (a' := ?_) ?_ ?_
            rotate_left
            · show Act.put _ (some 12) _ = _
              simp only [Act.put, List.setIfInBounds_toArray, List.set_cons_zero, List.set_cons_succ]
              rfl
            generalize V1.alloc (.cells #[.int .i64 0, .int .i64 0, .int .i64 0, .int .i64 0] 35) = V2 at *
            generalize V1.heap.size = G at *
            refine last_ (i := 12) (N := none) #[true, true, true, true, true, true, true, true, true, true, true, true, true, false] rfl rfl (by kernel_rfl) (by decide) (fun K hK => ?_)
            have gE := holdsC_row gG #[.int .i64 (ep 0), .int .i64 (ep 1), .int .i64 (ep 2), .int .i64 (ep 3)]
            replace xs := below_setRow xs hG.out #[.int .i64 (ep 0), .int .i64 (ep 1), .int .i64 (ep 2), .int .i64 (ep 3)]
            refine skip_ (by rfl) rfl (exec_storeC (c := #[.int .i64 (ep 0), .int .i64 (ep 1), .int .i64 (ep 2), .int .i64 (ep 3)]) rfl rfl rfl gG (by kernel_rfl) rfl (by kernel_rfl)) ?_
            refine hK.out _ _ ?_
            clear hK K gG
            refine pure_ (i := 13) (N := some 13) (v := ?_) (a' := ?_) #[true, true, true, true, true, true, true, true, true, true, true, true, true, true] rfl rfl (by kernel_rfl) (fun _ _ _ h => h) (Or.inl ⟨by rfl, ?_⟩) ?_ ?_
            rotate_left
            · intro w'
              go_simp
              with_reducible rfl
            rotate_left
            · simp only [Act.put, List.setIfInBounds_toArray, List.set_cons_zero, List.set_cons_succ]
              rfl
            refine done_ (by kernel_rfl) ?_
            go_wp2
            go_meet
            case rel => exact ⟨G, rfl, rfl, gE, xs⟩
          · skip
            refine value_ (by rfl) rfl (exec_newX rfl) ?_
            have gG : holdsC (W0.alloc (.cells #[.int .i64 0, .int .i64 0, .int .i64 0, .int .i64 0] 35)) W0.heap.size 35 #[.int .i64 0, .int .i64 0, .int .i64 0, .int .i64 0] := heap_alloc_new _ _
            have hG : Hid (w40.heap.size ≤ W0.heap.size) := xs.size
            have bz : Below W0.heap.size W0 (W0.alloc (.cells #[.int .i64 0, .int .i64 0, .int .i64 0, .int .i64 0] 35)) := below_alloc (Below.refl _ _) (.cells #[.int .i64 0, .int .i64 0, .int .i64 0, .int .i64 0] 35)
            have z0 := pw_cell_below bz z0
            have z1 := pw_cell_below bz z1
            have z2 := pw_cell_below bz z2
            have z3 := pw_cell_below bz z3
            have hBG : B < W0.heap.size := x0.lt
            have x0 := x0.alloc (.cells #[.int .i64 0, .int .i64 0, .int .i64 0, .int .i64 0] 35)
            have x1 := x1.alloc (.cells #[.int .i64 0, .int .i64 0, .int .i64 0, .int .i64 0] 35)
            have x2 := x2.alloc (.cells #[.int .i64 0, .int .i64 0, .int .i64 0, .int .i64 0] 35)
            replace xb := xb.alloc (Nat.le_of_lt hBG) (.cells #[.int .i64 0, .int .i64 0, .int .i64 0, .int .i64 0] 35)
            replace xs := xs.alloc hG.out (.cells #[.int .i64 0, .int .i64 0, .int .i64 0, .int .i64 0] 35)
            clear bz
            refine hK.out _ _ ⟨x0, x1, x2, z0, z1, z2, z3⟩ (fun hHeld => ?_)
            clear hK K hHeld
            refine norm_ (a' := ?_) ?_ ?_
            rotate_left
            · show Act.put _ (some 12) _ = _
              simp only [Act.put, List.setIfInBounds_toArray, List.set_cons_zero, List.set_cons_succ]
              rfl
            generalize W0.alloc (.cells #[.int .i64 0, .int .i64 0, .int .i64 0, .int .i64 0] 35) = V3 at *
            generalize W0.heap.size = G at *
            refine one_ (i := 7) (N := some 78) #[true, true, true, true, true, true, true, true, false, false, false, true, false, false] rfl rfl (by kernel_rfl) (by decide) (fun K hK => ?_)
            refine goes_ Try.func14 (by kernel_rfl) rfl #[.agg (profC nm (.slice A l.length c) m), .agg (profC nm' (.slice A' l'.length c') m'), .agg (pixC p.f0 p.f1 p.f2 p.f3)] (by rfl) rfl rfl (by simp only [List.map_toArray, List.map_cons, List.map_nil]; rfl) ?_
            refine (HR1.out _ xb).mono ?_
            rintro e V4 ⟨rfl, b1⟩
            refine ⟨_, rfl, ?_⟩
            have x0 := x0.kept b1 x0.lt
            have x1 := x1.kept b1 x1.lt
            have x2 := x2.kept b1 x2.lt
            have z0 := pw_cell_below b1 z0
            have z1 := pw_cell_below b1 z1
            have z2 := pw_cell_below b1 z2
            have z3 := pw_cell_below b1 z3
            have gG := gG.kept b1 gG.lt
            have xb := xb.trans (b1.mono (Nat.le_trans (Nat.le_of_eq HB.out.symm) xb.size))
            have xs := xs.trans (b1.mono xs.size)
            refine hK.out _ _ ⟨x0, x1, x2, z0, z1, z2, z3⟩ (fun hHeld => ?_)
            clear hK K b1 hHeld
            refine norm_ (a' := ?_) ?_ ?_
            rotate_left
            · show Act.put _ (some 78) _ = _
              simp only [Act.put, List.setIfInBounds_toArray, List.set_cons_zero, List.set_cons_succ]
              rfl
            refine pure_ (i := 8) (N := some 70) (v := ?_) (a' := ?_) #[true, true, true, true, true, true, true, true, true, false, false, true, false, false] rfl rfl (by kernel_rfl) (fun _ _ _ h => h) (Or.inl ⟨by rfl, ?_⟩) ?_ ?_
            rotate_left
            · intro w'
              go_simp
              with_reducible rfl
            rotate_left
            · simp only [Act.put, List.setIfInBounds_toArray, List.set_cons_zero, List.set_cons_succ]
              rfl
            refine pure_ (i := 9) (N := some 79) (v := ?_) (a' := ?_) #[true, true, true, true, true, true, true, true, true, true, false, true, false, false] rfl rfl (by kernel_rfl) (fun _ _ _ h => h) (Or.inl ⟨by rfl, ?_⟩) ?_ ?_
            rotate_left
            · intro w'
              go_simp
              with_reducible rfl
            rotate_left
            · simp only [Act.put, List.setIfInBounds_toArray, List.set_cons_zero, List.set_cons_succ]
              rfl
            refine pure_ (i := 10) (N := some 80) (v := ?_) (a' := ?_) #[true, true, true, true, true, true, true, true, true, true, true, true, false, false] rfl rfl (by kernel_rfl) (fun _ _ _ h => h) (Or.inl ⟨by rfl, ?_⟩) ?_ ?_
            rotate_left
            · intro w'
              go_simp
              with_reducible rfl
            rotate_left
            · simp only [Act.put, List.setIfInBounds_toArray, List.set_cons_zero, List.set_cons_succ]
              rfl
            refine last_ (i := 12) (N := none) #[true, true, true, true, true, true, true, true, true, true, true, true, true, false] rfl rfl (by kernel_rfl) (by decide) (fun K hK => ?_)
            have gE := holdsC_row gG #[.int .i64 (ep 0), .int .i64 (ep 1), .int .i64 (ep 2), .int .i64 (ep 3)]
            replace xs := below_setRow xs hG.out #[.int .i64 (ep 0), .int .i64 (ep 1), .int .i64 (ep 2), .int .i64 (ep 3)]
            refine skip_ (by rfl) rfl (exec_storeC (c := #[.int .i64 (ep 0), .int .i64 (ep 1), .int .i64 (ep 2), .int .i64 (ep 3)]) rfl rfl rfl gG (by kernel_rfl) rfl (by kernel_rfl)) ?_
            refine hK.out _ _ ?_
            clear hK K gG
            refine pure_ (i := 13) (N := some 13) (v := ?_) (a' := ?_) #[true, true, true, true, true, true, true, true, true, true, true, true, true, true] rfl rfl (by kernel_rfl) (fun _ _ _ h => h) (Or.inl ⟨by rfl, ?_⟩) ?_ ?_
            rotate_left
            · intro w'
              go_simp
              with_reducible rfl
            rotate_left
            · simp only [Act.put, List.setIfInBounds_toArray, List.set_cons_zero, List.set_cons_succ]
              rfl
            refine done_ (by kernel_rfl) ?_
            go_wp2
            go_meet
            case rel => exact ⟨G, rfl, rfl, gE, xs⟩
        case rest =>
          clear x0 x1 x2 x3 xb hs0 z0 z1 z2 z3 c2 d2
          obtain ⟨G, rfl, rfl, gE, xs⟩ := hcut
          obtain ⟨w22, hw22⟩ : ∃ w22 : World, w22 = wc := ⟨_, rfl⟩
          subst hw22
          have x3 := y3.kept xs y3.lt
          have hC4 := Kd.C_below hC1 xs
          obtain ⟨ad2, e6, t0, t1, t2, t3⟩ := at_T35 hC4 (i : Int) (by omega) (by omega)
          cases e6
          simp only [Int.toNat_natCast] at t0 t1 t2 t3
          rw [HRD2.out] at t0 t1 t2 t3
          clear hC4
          go_upto_region 13 with fail
          refine start_ (n := 11) (S := fun w' => holdsC w' q1 28 (imgC W1 H1 (.slice (some ae) px.length c1_)) ∧ holdsC w' G 35 #[.int .i64 (ep 0), .int .i64 (ep 1), .int .i64 (ep 2), .int .i64 (ep 3)] ∧ w'.cell? (ae.add (i * 4)) = some (.int .i64 (ep 0)) ∧ w'.cell? ⟨(ae.add (i * 4)).block, (ae.add (i * 4)).off + 1, none⟩ = some (.int .i64 (ep 1)) ∧ w'.cell? ⟨(ae.add (i * 4)).block, (ae.add (i * 4)).off + 2, none⟩ = some (.int .i64 (ep 2)) ∧ w'.cell? ⟨(ae.add (i * 4)).block, (ae.add (i * 4)).off + 3, none⟩ = some (.int .i64 (ep 3))) (ds := []) #[false, false, false, false, false, false, false, false, false, false, false] (by kernel_rfl) rfl rfl ⟨x3, gE, t0, t1, t2, t3⟩ (fun hHeld => ?_)
          replace xs := xs.drew
          clear x3 gE t0 t1 t2 t3
          refine pure_ (i := 0) (N := some 81) (v := ?_) (a' := ?_) #[true, false, false, false, false, false, false, false, false, false, false] rfl rfl (by kernel_rfl) (fun _ _ _ h => h) (Or.inl ⟨by rfl, ?_⟩) ?_ ?_
          rotate_left
          · intro w'
            go_simp
            with_reducible rfl
          rotate_left
          · simp only [Act.put, List.setIfInBounds_toArray, List.set_cons_zero, List.set_cons_succ]
            rfl
          refine pure_ (i := 1) (N := some 82) (v := ?_) (a' := ?_) #[true, true, false, false, false, false, false, false, false, false, false] rfl rfl (by kernel_rfl) (fun _ _ _ h => h) (Or.inl ⟨by rfl, ?_⟩) ?_ ?_
          rotate_left
          · intro w'
            go_simp
            with_reducible rfl
          rotate_left
          · simp only [Act.put, List.setIfInBounds_toArray, List.set_cons_zero, List.set_cons_succ]
            rfl
          refine pure_ (i := 2) (N := some 83) (v := ?_) (a' := ?_) #[true, true, true, false, false, false, false, false, false, false, false] rfl rfl (by kernel_rfl) (fun _ _ _ h => h) (Or.inl ⟨by rfl, ?_⟩) ?_ ?_
          rotate_left
          · intro w'
            go_simp
            with_reducible rfl
          rotate_left
          · simp only [Act.put, List.setIfInBounds_toArray, List.set_cons_zero, List.set_cons_succ]
            rfl
          refine pure_ (i := 3) (N := some 84) (v := ?_) (a' := ?_) #[true, true, true, true, false, false, false, false, false, false, false] rfl rfl (by kernel_rfl) (fun _ _ _ h => h) (Or.inl ⟨by rfl, ?_⟩) ?_ ?_
          rotate_left
          · intro w'
            go_simp
            with_reducible rfl
          rotate_left
          · simp only [Act.put, List.setIfInBounds_toArray, List.set_cons_zero, List.set_cons_succ]
            rfl
          refine take_ (i := 4) (N := some 85) (v := ?_) (a' := ?_) #[true, true, true, true, true, false, false, false, false, false, false] rfl rfl (by kernel_rfl) (fun _ _ _ h => h) (Or.inl ⟨by rfl, ?_⟩) hHeld ?_ ?_
          rotate_left
          · rintro w' ⟨s0, s1, t0, t1, t2, t3⟩
            have c1_ := s0.cell 2 (.slice (some ae) px.length c1_) rfl
            go_simp
            with_reducible rfl
          rotate_left
          · simp only [Act.put, List.setIfInBounds_toArray, List.set_cons_zero, List.set_cons_succ]
            rfl
          refine pure_ (i := 5) (N := some 86) (v := ?_) (a' := ?_) #[true, true, true, true, true, true, false, false, false, false, false] rfl rfl (by kernel_rfl) (fun _ _ _ h => h) (Or.inl ⟨by rfl, ?_⟩) ?_ ?_
          rotate_left
          · intro w'
            go_simp
            with_reducible rfl
          rotate_left
          · simp only [Act.put, List.setIfInBounds_toArray, List.set_cons_zero, List.set_cons_succ]
            rfl
          refine pure_ (i := 6) (N := some 87) (v := ?_) (a' := ?_) #[true, true, true, true, true, true, true, false, false, false, false] rfl rfl (by kernel_rfl) (fun _ _ _ h => h) (Or.inl ⟨by rfl, ?_⟩) ?_ ?_
          rotate_left
          · intro w'
            go_simp
            with_reducible rfl
          rotate_left
          · simp only [Act.put, List.setIfInBounds_toArray, List.set_cons_zero, List.set_cons_succ]
            rfl
          refine take_ (i := 7) (N := some 88) (v := ?_) (a' := ?_) #[true, true, true, true, true, true, true, true, false, false, false] rfl rfl (by kernel_rfl) (fun _ _ _ h => h) (Or.inl ⟨by rfl, ?_⟩) hHeld ?_ ?_
          rotate_left
          · rintro w' ⟨s0, s1, t0, t1, t2, t3⟩
            skip
            go_simp
            with_reducible rfl
          rotate_left
          · simp only [Act.put, List.setIfInBounds_toArray, List.set_cons_zero, List.set_cons_succ]
            rfl
          refine take_ (i := 8) (N := some 89) (v := .agg #[.int .i64 (ep 0), .int .i64 (ep 1), .int .i64 (ep 2), .int .i64 (ep 3)]) (a' := ?_) #[true, true, true, true, true, true, true, true, true, false, false] rfl rfl (by kernel_rfl) (fun _ _ _ h => h) (Or.inl ⟨by rfl, fun w' s => exec_loadC rfl rfl s.2.1 rfl Try.underlying35 (by kernel_rfl)⟩) hHeld ?_ ?_
          rotate_left
          · simp only [Act.put, List.setIfInBounds_toArray, List.set_cons_zero, List.set_cons_succ]
            rfl
          refine pure_ (i := 9) (N := some 90) (v := .bool false) (a' := ?_) #[true, true, true, true, true, true, true, true, true, true, false] rfl rfl (by kernel_rfl) (fun _ _ _ h => h) (Or.inl ⟨by rfl, fun w' => exec_neX rfl rfl rfl⟩) ?_ ?_
          rotate_left
          · simp only [Act.put, List.setIfInBounds_toArray, List.set_cons_zero, List.set_cons_succ]
            rfl
          refine pure_ (i := 10) (N := some 91) (v := ?_) (a' := ?_) #[true, true, true, true, true, true, true, true, true, true, true] rfl rfl (by kernel_rfl) (fun _ _ _ h => h) (Or.inl ⟨by rfl, ?_⟩) ?_ ?_
          rotate_left
          · intro w'
            go_simp
            with_reducible rfl
          rotate_left
          · simp only [Act.put, List.setIfInBounds_toArray, List.set_cons_zero, List.set_cons_succ]
            rfl
          refine done_ (by kernel_rfl) ?_
          go_wp2
          go_roundw
          case rel => exact ⟨i + 1, by omega, by go_num, xs⟩
          case measure => simp [intOf]; omega
      · have hd : decide ((i : Int) < (px.length : Int)) = false := decide_eq_false (by omega)
        go_wp2
        go_ret
        exact ⟨rfl, by rw [HB.out]; exact xb⟩
  · have hne : (ie != 0) = true := by simpa using hie
    obtain ⟨rfl, rfl, rfl⟩ := HZ.out hie
    have c0 := y3_.cell 0 (.int .i64 0) rfl
    have c1 := y3_.cell 1 (.int .i64 0) rfl
    have c2 := y3_.cell 2 (.slice A1_ 0 c1_) rfl
    go_wp2
    go_ret
    exact ⟨rfl, by rw [HB.out]; exact yb_⟩
end Go.Proofs.Ytlpfepcmpccbeaa.Lw
