/-
  The law ProfileConverts: its walk.
-/
import Derived.Test.YtlpfepcmpccbeaaZV
import Derived.Test.YtlpfepcmpccbeaaZLc4
namespace Go.Proofs.Ytlpfepcmpccbeaa.Lw
open Go.RowKit Go.Proofs.Ytlpfepcmpccbeaa.NM Go.Proofs.Ytlpfepcmpccbeaa.Cv Go.Proofs.Ytlpfepcmpccbeaa.Wi Go.Proofs.Ytlpfepcmpccbeaa.Nm9 Go.Proofs.Ytlpfepcmpccbeaa.Mx Go.Proofs.Ytlpfepcmpccbeaa.Pf Go.Proofs.Ytlpfepcmpccbeaa.Pt Go.Proofs.Ytlpfepcmpccbeaa.Aw Go.Proofs.Ytlpfepcmpccbeaa.PNum Go.Proofs.YtlpfepcmpccbeaaW.PrintWords Go.Proofs.YtlpfepcmpccbeaaW.PrintMore Go.Proofs.YtlpfepcmpccbeaaW.PrintLast
attribute [local go_sem] eq9 eq3 eg9 eg3
attribute [local go_sem high] eqA35
set_option linter.unusedVariables false
theorem lim_range (x : Int) : 0 ≤ lim x ∧ lim x ≤ 65535 := clampS_range _ (by omega)
theorem lim_in {x : Int} (h0 : 0 ≤ x) (h1 : x ≤ 65535) : lim x = x := by
  unfold lim clampS
  repeat' split
  all_goals omega
theorem conv_alpha (nm : ByteArray) (l : List Kn) (m : Nat → Int) (nm' : ByteArray) (l' : List Kn) (m' : Nat → Int) (r g b a : Int) (h : bothC nm l m nm' l' m' = 0) : convP nm l m nm' l' m' r g b a 3 = lim a := by
  unfold convP
  rw [if_pos h]
  split
  · rfl
  · unfold encE
    split
    · rename_i h0; exact h0.symm
    · rfl
theorem conv_same (nm : ByteArray) (l : List Kn) (m : Nat → Int) (r g b a : Int) (h : bothC nm l m nm l m = 0) : convP nm l m nm l m r g b a 0 = lim r ∧ convP nm l m nm l m r g b a 1 = lim g ∧ convP nm l m nm l m r g b a 2 = lim b ∧ convP nm l m nm l m r g b a 3 = lim a := by
  unfold convP
  rw [if_pos h, if_pos (profSame_self nm l m)]
  exact ⟨rfl, rfl, rfl, rfl⟩
set_option maxRecDepth 20000 in
set_option maxHeartbeats 2000000 in
theorem converts_true (nm : ByteArray) (A : Option Addr) (c : Nat) (l : List Kn) (m : Nat → Int) (nm' : ByteArray) (A' : Option Addr) (c' : Nat) (l' : List Kn) (m' : Nat → Int) (r g b a : Int) (w : World) (hs : nm.size ≤ 140737488355232) (hl : l.length ≤ 140737488355232) (hr : Kd.C k72 w A l.length l) (hc : l.length ≤ c) (hs' : nm'.size ≤ 140737488355232) (hl' : l'.length ≤ 140737488355232) (hr' : Kd.C k72 w A' l'.length l') (hc' : l'.length ≤ c') :
    Calls Try.prog 6 #[.agg (profC nm (.slice A l.length c) m), .agg (profC nm' (.slice A' l'.length c') m'), .agg (pixC r g b a)] w fun e w' => e = .returned (.bool true) ∧ Below w.heap.size w w' := by
  have HV1 : Hid (∀ w', Below w.heap.size w w' → Calls Try.prog 14 #[.agg (profC nm (.slice A l.length c) m), .agg (profC nm' (.slice A' l'.length c') m'), .agg (pixC r g b a)] w' fun e w'' => e = .returned (.tuple #[.agg (pixF (convP nm l m nm' l' m' r g b a)), .int .i64 (bothC nm l m nm' l' m')]) ∧ Below w'.heap.size w' w'') := fun w' hb => pConvert_any nm A c l m nm' A' c' l' m' r g b a w' hs hl (Kd.C_below hr hb) hc hs' (Kd.C_below hr' hb) hc'
  have HV2 : Hid (∀ w', Below w.heap.size w w' → Calls Try.prog 28 #[.agg (profC nm (.slice A l.length c) m), .agg (profC nm' (.slice A' l'.length c') m'), .agg (pixC r g b a)] w' fun e w'' => e = .returned (.tuple #[.agg (pixF (convP nm l m nm' l' m' r g b a)), .int .i64 (bothC nm l m nm' l' m')]) ∧ Below w'.heap.size w' w'') := fun w' hb => rConvert_any nm A c l m nm' A' c' l' m' r g b a w' hs hl (Kd.C_below hr hb) hc hs' (Kd.C_below hr' hb) hc'
  have HV3 : Hid (∀ w', Below w.heap.size w w' → Calls Try.prog 14 #[.agg (profC nm (.slice A l.length c) m), .agg (profC nm (.slice A l.length c) m), .agg (pixC r g b a)] w' fun e w'' => e = .returned (.tuple #[.agg (pixF (convP nm l m nm l m r g b a)), .int .i64 (bothC nm l m nm l m)]) ∧ Below w'.heap.size w' w'') := fun w' hb => pConvert_any nm A c l m nm A c l m r g b a w' hs hl (Kd.C_below hr hb) hc hs (Kd.C_below hr hb) hc
  have HA : Hid ((bothC nm l m nm' l' m') = 0 → (convP nm l m nm' l' m' r g b a) 3 = lim a) := conv_alpha nm l m nm' l' m' r g b a
  have HS : Hid ((bothC nm l m nm l m) = 0 → (convP nm l m nm l m r g b a) 0 = lim r ∧ (convP nm l m nm l m r g b a) 1 = lim g ∧ (convP nm l m nm l m r g b a) 2 = lim b ∧ (convP nm l m nm l m r g b a) 3 = lim a) := conv_same nm l m r g b a
  generalize (convP nm l m nm' l' m' r g b a) = cv at *
  generalize (bothC nm l m nm' l' m') = bc at *
  generalize (convP nm l m nm l m r g b a) = cs at *
  generalize (bothC nm l m nm l m) = bs at *
  go_enter Try.func6, Try.ntmps6
  go_upto_region 1 with fail
  have h0 : holdsC (((w.alloc (.cells (profC nm (.slice A l.length c) m) 25)).alloc (.cells (profC nm' (.slice A' l'.length c') m') 25)).alloc (.cells (pixC r g b a) 35)) w.heap.size 25 (profC nm (.slice A l.length c) m) := by
    have h : holdsC (w.alloc (.cells (profC nm (.slice A l.length c) m) 25)) w.heap.size 25 (profC nm (.slice A l.length c) m) := heap_alloc_new _ _
    have h := ((h.alloc (.cells (profC nm' (.slice A' l'.length c') m') 25)).alloc (.cells (pixC r g b a) 35))
    exact h
  have h1 : holdsC (((w.alloc (.cells (profC nm (.slice A l.length c) m) 25)).alloc (.cells (profC nm' (.slice A' l'.length c') m') 25)).alloc (.cells (pixC r g b a) 35)) (w.heap.size + 1) 25 (profC nm' (.slice A' l'.length c') m') := by
    have h : holdsC ((w.alloc (.cells (profC nm (.slice A l.length c) m) 25)).alloc (.cells (profC nm' (.slice A' l'.length c') m') 25)) (w.alloc (.cells (profC nm (.slice A l.length c) m) 25)).heap.size 25 (profC nm' (.slice A' l'.length c') m') := heap_alloc_new _ _
    have h := (h.alloc (.cells (pixC r g b a) 35))
    simpa using h
  have h2 : holdsC (((w.alloc (.cells (profC nm (.slice A l.length c) m) 25)).alloc (.cells (profC nm' (.slice A' l'.length c') m') 25)).alloc (.cells (pixC r g b a) 35)) (w.heap.size + 1 + 1) 35 (pixC r g b a) := by
    have h : holdsC (((w.alloc (.cells (profC nm (.slice A l.length c) m) 25)).alloc (.cells (profC nm' (.slice A' l'.length c') m') 25)).alloc (.cells (pixC r g b a) 35)) ((w.alloc (.cells (profC nm (.slice A l.length c) m) 25)).alloc (.cells (profC nm' (.slice A' l'.length c') m') 25)).heap.size 35 (pixC r g b a) := heap_alloc_new _ _
    have h := h
    simpa using h
  have hb : Below w.heap.size w (((w.alloc (.cells (profC nm (.slice A l.length c) m) 25)).alloc (.cells (profC nm' (.slice A' l'.length c') m') 25)).alloc (.cells (pixC r g b a) 35)) := ((((Below.refl _ _).alloc (Nat.le_refl _) _).alloc (by simp) _).alloc (by simp; omega) _)
  generalize (((w.alloc (.cells (profC nm (.slice A l.length c) m) 25)).alloc (.cells (profC nm' (.slice A' l'.length c') m') 25)).alloc (.cells (pixC r g b a) 35)) = wc at *
  generalize hB : w.heap.size = B at *
  have HB := Lib.hid hB
  clear hB
  go_wp2_with (first
    | (refine wpList_load_row rfl 25 (.tmp 3) rfl B rfl 25 (profC nm (.slice A l.length c) m) (0, 0) _ h0 Try.underlying25 rfl (profC_info _ _ _) ?_)
    | (refine wpList_load_row rfl 25 (.tmp 4) rfl (B + 1) rfl 25 (profC nm' (.slice A' l'.length c') m') (0, 0) _ h1 Try.underlying25 rfl (profC_info _ _ _) ?_)
    | (refine wpList_load_row rfl 35 (.tmp 5) rfl (B + 1 + 1) rfl 35 (pixC r g b a) (0, 0) _ h2 Try.underlying35 rfl (by kernel_rfl) ?_))
  refine (HV1.out _ hb).mono ?_; rintro e w1 ⟨rfl, b1⟩
  have g0_ := h0.kept b1 h0.lt
  have g1_ := h1.kept b1 h1.lt
  have g2_ := h2.kept b1 h2.lt
  have gb_ := hb.trans (b1.mono (Nat.le_trans (Nat.le_of_eq HB.out.symm) hb.size))
  clear h0 h1 h2 hb b1
  have H3 : holdsC (w1.alloc (.cells #[.int .i64 0, .int .i64 0, .int .i64 0, .int .i64 0] 35)) w1.heap.size 35 #[.int .i64 0, .int .i64 0, .int .i64 0, .int .i64 0] := heap_alloc_new _ _
  have k0_ := (g0_.alloc (.cells #[.int .i64 0, .int .i64 0, .int .i64 0, .int .i64 0] 35)).setRowOther (g' := w1.heap.size) (by have := g0_.lt; omega) #[.int .i64 (cv 0), .int .i64 (cv 1), .int .i64 (cv 2), .int .i64 (cv 3)]
  have nk0_ : B < w1.heap.size := g0_.lt
  have k1_ := (g1_.alloc (.cells #[.int .i64 0, .int .i64 0, .int .i64 0, .int .i64 0] 35)).setRowOther (g' := w1.heap.size) (by have := g1_.lt; omega) #[.int .i64 (cv 0), .int .i64 (cv 1), .int .i64 (cv 2), .int .i64 (cv 3)]
  have nk1_ : (B + 1) < w1.heap.size := g1_.lt
  have k2_ := (g2_.alloc (.cells #[.int .i64 0, .int .i64 0, .int .i64 0, .int .i64 0] 35)).setRowOther (g' := w1.heap.size) (by have := g2_.lt; omega) #[.int .i64 (cv 0), .int .i64 (cv 1), .int .i64 (cv 2), .int .i64 (cv 3)]
  have nk2_ : (B + 1 + 1) < w1.heap.size := g2_.lt
  have k3_ := holdsC_row H3 #[.int .i64 (cv 0), .int .i64 (cv 1), .int .i64 (cv 2), .int .i64 (cv 3)]
  have nq1 : B ≤ w1.heap.size := by rw [← HB.out]; exact gb_.size
  have kb_ := below_setRow (gb_.alloc nq1 (.cells #[.int .i64 0, .int .i64 0, .int .i64 0, .int .i64 0] 35)) nq1 #[.int .i64 (cv 0), .int .i64 (cv 1), .int .i64 (cv 2), .int .i64 (cv 3)]
  go_upto_region 2 with (first | (refine wpList_store_row rfl 35 (.tmp 7) (.tmp 19) rfl _ #[.int .i64 (cv 0), .int .i64 (cv 1), .int .i64 (cv 2), .int .i64 (cv 3)] rfl rfl 35 _ H3 (by kernel_rfl) rfl (by kernel_rfl) ?_))
  clear H3 g0_ g1_ g2_ gb_
  generalize (w1.alloc (.cells #[.int .i64 0, .int .i64 0, .int .i64 0, .int .i64 0] 35)).setRow w1.heap.size #[.int .i64 (cv 0), .int .i64 (cv 1), .int .i64 (cv 2), .int .i64 (cv 3)] = w2 at *
  generalize w1.heap.size = q1 at *
  go_wp2_with (first
    | (refine wpList_load_row rfl 25 (.tmp 3) rfl B rfl 25 (profC nm (.slice A l.length c) m) (0, 0) _ k0_ Try.underlying25 rfl (profC_info _ _ _) ?_)
    | (refine wpList_load_row rfl 25 (.tmp 4) rfl (B + 1) rfl 25 (profC nm' (.slice A' l'.length c') m') (0, 0) _ k1_ Try.underlying25 rfl (profC_info _ _ _) ?_)
    | (refine wpList_load_row rfl 35 (.tmp 5) rfl (B + 1 + 1) rfl 35 (pixC r g b a) (0, 0) _ k2_ Try.underlying35 rfl (by kernel_rfl) ?_))
  refine (HV2.out _ kb_).mono ?_; rintro e w3 ⟨rfl, b1⟩
  have u0_ := k0_.kept b1 k0_.lt
  have u1_ := k1_.kept b1 k1_.lt
  have u2_ := k2_.kept b1 k2_.lt
  have u3_ := k3_.kept b1 k3_.lt
  have ub_ := kb_.trans (b1.mono (Nat.le_trans (Nat.le_of_eq HB.out.symm) kb_.size))
  clear k0_ k1_ k2_ k3_ kb_ b1
  have H3 : holdsC (w3.alloc (.cells #[.int .i64 0, .int .i64 0, .int .i64 0, .int .i64 0] 35)) w3.heap.size 35 #[.int .i64 0, .int .i64 0, .int .i64 0, .int .i64 0] := heap_alloc_new _ _
  have v0_ := (u0_.alloc (.cells #[.int .i64 0, .int .i64 0, .int .i64 0, .int .i64 0] 35)).setRowOther (g' := w3.heap.size) (by have := u0_.lt; omega) #[.int .i64 (cv 0), .int .i64 (cv 1), .int .i64 (cv 2), .int .i64 (cv 3)]
  have nv0_ : B < w3.heap.size := u0_.lt
  have v1_ := (u1_.alloc (.cells #[.int .i64 0, .int .i64 0, .int .i64 0, .int .i64 0] 35)).setRowOther (g' := w3.heap.size) (by have := u1_.lt; omega) #[.int .i64 (cv 0), .int .i64 (cv 1), .int .i64 (cv 2), .int .i64 (cv 3)]
  have nv1_ : (B + 1) < w3.heap.size := u1_.lt
  have v2_ := (u2_.alloc (.cells #[.int .i64 0, .int .i64 0, .int .i64 0, .int .i64 0] 35)).setRowOther (g' := w3.heap.size) (by have := u2_.lt; omega) #[.int .i64 (cv 0), .int .i64 (cv 1), .int .i64 (cv 2), .int .i64 (cv 3)]
  have nv2_ : (B + 1 + 1) < w3.heap.size := u2_.lt
  have v3_ := (u3_.alloc (.cells #[.int .i64 0, .int .i64 0, .int .i64 0, .int .i64 0] 35)).setRowOther (g' := w3.heap.size) (by have := u3_.lt; omega) #[.int .i64 (cv 0), .int .i64 (cv 1), .int .i64 (cv 2), .int .i64 (cv 3)]
  have nv3_ : q1 < w3.heap.size := u3_.lt
  have v4_ := holdsC_row H3 #[.int .i64 (cv 0), .int .i64 (cv 1), .int .i64 (cv 2), .int .i64 (cv 3)]
  have nq2 : B ≤ w3.heap.size := by rw [← HB.out]; exact ub_.size
  have vb_ := below_setRow (ub_.alloc nq2 (.cells #[.int .i64 0, .int .i64 0, .int .i64 0, .int .i64 0] 35)) nq2 #[.int .i64 (cv 0), .int .i64 (cv 1), .int .i64 (cv 2), .int .i64 (cv 3)]
  go_upto_region 3 with (first | (refine wpList_store_row rfl 35 (.tmp 9) (.tmp 26) rfl _ #[.int .i64 (cv 0), .int .i64 (cv 1), .int .i64 (cv 2), .int .i64 (cv 3)] rfl rfl 35 _ H3 (by kernel_rfl) rfl (by kernel_rfl) ?_))
  clear H3 u0_ u1_ u2_ u3_ ub_
  generalize (w3.alloc (.cells #[.int .i64 0, .int .i64 0, .int .i64 0, .int .i64 0] 35)).setRow w3.heap.size #[.int .i64 (cv 0), .int .i64 (cv 1), .int .i64 (cv 2), .int .i64 (cv 3)] = w4 at *
  generalize w3.heap.size = q2 at *
  go_wp2_with (first
    | (refine wpList_load_row rfl 25 (.tmp 3) rfl B rfl 25 (profC nm (.slice A l.length c) m) (0, 0) _ v0_ Try.underlying25 rfl (profC_info _ _ _) ?_)
    | (refine wpList_load_row rfl 35 (.tmp 5) rfl (B + 1 + 1) rfl 35 (pixC r g b a) (0, 0) _ v2_ Try.underlying35 rfl (by kernel_rfl) ?_))
  refine (HV3.out _ vb_).mono ?_; rintro e w5 ⟨rfl, b1⟩
  have x0_ := v0_.kept b1 v0_.lt
  have x1_ := v1_.kept b1 v1_.lt
  have x2_ := v2_.kept b1 v2_.lt
  have x3_ := v3_.kept b1 v3_.lt
  have x4_ := v4_.kept b1 v4_.lt
  have xb_ := vb_.trans (b1.mono (Nat.le_trans (Nat.le_of_eq HB.out.symm) vb_.size))
  clear v0_ v1_ v2_ v3_ v4_ vb_ b1
  have H3 : holdsC (w5.alloc (.cells #[.int .i64 0, .int .i64 0, .int .i64 0, .int .i64 0] 35)) w5.heap.size 35 #[.int .i64 0, .int .i64 0, .int .i64 0, .int .i64 0] := heap_alloc_new _ _
  have y0_ := (x0_.alloc (.cells #[.int .i64 0, .int .i64 0, .int .i64 0, .int .i64 0] 35)).setRowOther (g' := w5.heap.size) (by have := x0_.lt; omega) #[.int .i64 (cs 0), .int .i64 (cs 1), .int .i64 (cs 2), .int .i64 (cs 3)]
  have ny0_ : B < w5.heap.size := x0_.lt
  have y1_ := (x1_.alloc (.cells #[.int .i64 0, .int .i64 0, .int .i64 0, .int .i64 0] 35)).setRowOther (g' := w5.heap.size) (by have := x1_.lt; omega) #[.int .i64 (cs 0), .int .i64 (cs 1), .int .i64 (cs 2), .int .i64 (cs 3)]
  have ny1_ : (B + 1) < w5.heap.size := x1_.lt
  have y2_ := (x2_.alloc (.cells #[.int .i64 0, .int .i64 0, .int .i64 0, .int .i64 0] 35)).setRowOther (g' := w5.heap.size) (by have := x2_.lt; omega) #[.int .i64 (cs 0), .int .i64 (cs 1), .int .i64 (cs 2), .int .i64 (cs 3)]
  have ny2_ : (B + 1 + 1) < w5.heap.size := x2_.lt
  have y3_ := (x3_.alloc (.cells #[.int .i64 0, .int .i64 0, .int .i64 0, .int .i64 0] 35)).setRowOther (g' := w5.heap.size) (by have := x3_.lt; omega) #[.int .i64 (cs 0), .int .i64 (cs 1), .int .i64 (cs 2), .int .i64 (cs 3)]
  have ny3_ : q1 < w5.heap.size := x3_.lt
  have y4_ := (x4_.alloc (.cells #[.int .i64 0, .int .i64 0, .int .i64 0, .int .i64 0] 35)).setRowOther (g' := w5.heap.size) (by have := x4_.lt; omega) #[.int .i64 (cs 0), .int .i64 (cs 1), .int .i64 (cs 2), .int .i64 (cs 3)]
  have ny4_ : q2 < w5.heap.size := x4_.lt
  have y5_ := holdsC_row H3 #[.int .i64 (cs 0), .int .i64 (cs 1), .int .i64 (cs 2), .int .i64 (cs 3)]
  have nq3 : B ≤ w5.heap.size := by rw [← HB.out]; exact xb_.size
  have yb_ := below_setRow (xb_.alloc nq3 (.cells #[.int .i64 0, .int .i64 0, .int .i64 0, .int .i64 0] 35)) nq3 #[.int .i64 (cs 0), .int .i64 (cs 1), .int .i64 (cs 2), .int .i64 (cs 3)]
  go_upto_region 4 with (first | (refine wpList_store_row rfl 35 (.tmp 11) (.tmp 33) rfl _ #[.int .i64 (cs 0), .int .i64 (cs 1), .int .i64 (cs 2), .int .i64 (cs 3)] rfl rfl 35 _ H3 (by kernel_rfl) rfl (by kernel_rfl) ?_))
  clear H3 x0_ x1_ x2_ x3_ x4_ xb_
  generalize (w5.alloc (.cells #[.int .i64 0, .int .i64 0, .int .i64 0, .int .i64 0] 35)).setRow w5.heap.size #[.int .i64 (cs 0), .int .i64 (cs 1), .int .i64 (cs 2), .int .i64 (cs 3)] = w6 at *
  generalize w5.heap.size = q3 at *
  have en : ∀ x : Int, (x == x) = true := fun x => by simp
  have nn : ∀ x : Int, (x != x) = false := fun x => by simp
  go_wp2_with (first
    | (refine wpList_load_row rfl 35 (.tmp 7) rfl q1 rfl 35 #[.int .i64 (cv 0), .int .i64 (cv 1), .int .i64 (cv 2), .int .i64 (cv 3)] (0, 0) _ y3_ Try.underlying35 rfl (by kernel_rfl) ?_)
    | (refine wpList_load_row rfl 35 (.tmp 9) rfl q2 rfl 35 #[.int .i64 (cv 0), .int .i64 (cv 1), .int .i64 (cv 2), .int .i64 (cv 3)] (0, 0) _ y4_ Try.underlying35 rfl (by kernel_rfl) ?_))
  refine (awake_true _).mono ?_; rintro e w7 ⟨rfl, b1⟩
  have z0_ := y0_.kept b1 y0_.lt
  have z1_ := y1_.kept b1 y1_.lt
  have z2_ := y2_.kept b1 y2_.lt
  have z3_ := y3_.kept b1 y3_.lt
  have z4_ := y4_.kept b1 y4_.lt
  have z5_ := y5_.kept b1 y5_.lt
  have zb_ := yb_.trans (b1.mono (Nat.le_trans (Nat.le_of_eq HB.out.symm) yb_.size))
  clear y0_ y1_ y2_ y3_ y4_ y5_ yb_ b1
  have p3 := z3_.cell 3 (.int .i64 (cv 3)) rfl
  have x0 := z2_.cell 0 (.int .i64 r) rfl
  have x1 := z2_.cell 1 (.int .i64 g) rfl
  have x2 := z2_.cell 2 (.int .i64 b) rfl
  have x3 := z2_.cell 3 (.int .i64 a) rfl
  clear en nn
  have hX : holdsC w7 (B + 1 + 1) 35 #[.int .i64 r, .int .i64 g, .int .i64 b, .int .i64 a] := z2_
  have hCS : holdsC w7 q3 35 #[.int .i64 (cs 0), .int .i64 (cs 1), .int .i64 (cs 2), .int .i64 (cs 3)] := z5_
  by_cases hbc : bc = 0
  · have hbc' : (bc == 0) = true := by simpa using hbc
    have hal := HA.out hbc
    have hlr := lim_range a
    have u0 : decide (cv 3 < 0) = false := decide_eq_false (by omega)
    have u1 : decide (65535 < cv 3) = false := decide_eq_false (by omega)
    by_cases ha0 : 0 ≤ a
    · have u2 : decide (0 ≤ a) = true := decide_eq_true ha0
      by_cases ha1 : a ≤ 65535
      · have u3 : decide (a ≤ 65535) = true := decide_eq_true ha1
        have u4 : (cv 3 != a) = false := by rw [hal, lim_in ha0 ha1]; simp
        clear hal hlr ha0 ha1
        go_upto_region 8 with fail
        clear u0 u1 u2 u3 u4 hbc' hbc
        go_cut [13] (fun v13 wc => ∃ q : Bool, v13 = .bool q ∧ Hid (q = true → (0 ≤ r ∧ r ≤ 65535) ∧ (0 ≤ g ∧ g ≤ 65535) ∧ (0 ≤ b ∧ b ≤ 65535) ∧ (0 ≤ a ∧ a ≤ 65535)) ∧ wc = w7)
        case first =>
          by_cases h0 : 0 ≤ r
          · have e0 : decide (0 ≤ r) = true := decide_eq_true h0
            by_cases h1 : r ≤ 65535
            · have e1 : decide (r ≤ 65535) = true := decide_eq_true h1
              by_cases h2 : 0 ≤ g
              · have e2 : decide (0 ≤ g) = true := decide_eq_true h2
                by_cases h3 : g ≤ 65535
                · have e3 : decide (g ≤ 65535) = true := decide_eq_true h3
                  by_cases h4 : 0 ≤ b
                  · have e4 : decide (0 ≤ b) = true := decide_eq_true h4
                    by_cases h5 : b ≤ 65535
                    · have e5 : decide (b ≤ 65535) = true := decide_eq_true h5
                      by_cases h6 : 0 ≤ a
                      · have e6 : decide (0 ≤ a) = true := decide_eq_true h6
                        by_cases h7 : a ≤ 65535
                        · have e7 : decide (a ≤ 65535) = true := decide_eq_true h7
                          go_wp2
                          go_meet
                          case rel => exact ⟨true, rfl, fun _ => ⟨⟨h0, h1⟩, ⟨h2, h3⟩, ⟨h4, h5⟩, ⟨h6, h7⟩⟩, rfl⟩
                        · have e7 : decide (a ≤ 65535) = false := decide_eq_false h7
                          go_wp2
                          go_meet
                          case rel => exact ⟨false, rfl, fun h => by simp at h, rfl⟩
                      · have e6 : decide (0 ≤ a) = false := decide_eq_false h6
                        go_wp2
                        go_meet
                        case rel => exact ⟨false, rfl, fun h => by simp at h, rfl⟩
                    · have e5 : decide (b ≤ 65535) = false := decide_eq_false h5
                      go_wp2
                      go_meet
                      case rel => exact ⟨false, rfl, fun h => by simp at h, rfl⟩
                  · have e4 : decide (0 ≤ b) = false := decide_eq_false h4
                    go_wp2
                    go_meet
                    case rel => exact ⟨false, rfl, fun h => by simp at h, rfl⟩
                · have e3 : decide (g ≤ 65535) = false := decide_eq_false h3
                  go_wp2
                  go_meet
                  case rel => exact ⟨false, rfl, fun h => by simp at h, rfl⟩
              · have e2 : decide (0 ≤ g) = false := decide_eq_false h2
                go_wp2
                go_meet
                case rel => exact ⟨false, rfl, fun h => by simp at h, rfl⟩
            · have e1 : decide (r ≤ 65535) = false := decide_eq_false h1
              go_wp2
              go_meet
              case rel => exact ⟨false, rfl, fun h => by simp at h, rfl⟩
          · have e0 : decide (0 ≤ r) = false := decide_eq_false h0
            go_wp2
            go_meet
            case rel => exact ⟨false, rfl, fun h => by simp at h, rfl⟩
        case rest =>
          obtain ⟨q, rfl, HQ, rfl⟩ := hcut
          by_cases hbs : bs = 0
          · have hbs2 : (bs != 0) = false := by simpa using hbs
            cases q
            · go_wp2_with (first | (refine Aw.wpList_load_g 121 rfl rfl 35 (.tmp 11) rfl rfl hCS Try.underlying35 rfl (by kernel_rfl) ?_) | (refine Aw.wpList_load_g 122 rfl rfl 35 (.tmp 5) rfl rfl hX Try.underlying35 rfl (by kernel_rfl) ?_))
              go_ret
              exact ⟨rfl, by rw [HB.out]; exact zb_⟩
            · obtain ⟨⟨h0, h1⟩, ⟨h2, h3⟩, ⟨h4, h5⟩, ⟨h6, h7⟩⟩ := HQ.out rfl
              obtain ⟨s0, s1, s2, s3⟩ := HS.out hbs
              rw [lim_in h0 h1] at s0
              rw [lim_in h2 h3] at s1
              rw [lim_in h4 h5] at s2
              rw [lim_in h6 h7] at s3
              have t0 : (cs 0 == r) = true := by simpa using s0
              have t1 : (cs 1 == g) = true := by simpa using s1
              have t2 : (cs 2 == b) = true := by simpa using s2
              have t3 : (cs 3 == a) = true := by simpa using s3
              clear s0 s1 s2 s3 hbs
              go_wp2_with (first | (refine Aw.wpList_load_g 121 rfl rfl 35 (.tmp 11) rfl rfl hCS Try.underlying35 rfl (by kernel_rfl) ?_) | (refine Aw.wpList_load_g 122 rfl rfl 35 (.tmp 5) rfl rfl hX Try.underlying35 rfl (by kernel_rfl) ?_))
              go_ret
              exact ⟨rfl, by rw [HB.out]; exact zb_⟩
          · have hbs2 : (bs != 0) = true := by simpa using hbs
            go_wp2_with (first | (refine Aw.wpList_load_g 121 rfl rfl 35 (.tmp 11) rfl rfl hCS Try.underlying35 rfl (by kernel_rfl) ?_) | (refine Aw.wpList_load_g 122 rfl rfl 35 (.tmp 5) rfl rfl hX Try.underlying35 rfl (by kernel_rfl) ?_))
            go_ret
            exact ⟨rfl, by rw [HB.out]; exact zb_⟩
      · have u3 : decide (a ≤ 65535) = false := decide_eq_false ha1
        clear hal hlr ha0 ha1
        go_upto_region 8 with fail
        clear u0 u1 u2 u3 hbc' hbc
        go_cut [13] (fun v13 wc => ∃ q : Bool, v13 = .bool q ∧ Hid (q = true → (0 ≤ r ∧ r ≤ 65535) ∧ (0 ≤ g ∧ g ≤ 65535) ∧ (0 ≤ b ∧ b ≤ 65535) ∧ (0 ≤ a ∧ a ≤ 65535)) ∧ wc = w7)
        case first =>
          by_cases h0 : 0 ≤ r
          · have e0 : decide (0 ≤ r) = true := decide_eq_true h0
            by_cases h1 : r ≤ 65535
            · have e1 : decide (r ≤ 65535) = true := decide_eq_true h1
              by_cases h2 : 0 ≤ g
              · have e2 : decide (0 ≤ g) = true := decide_eq_true h2
                by_cases h3 : g ≤ 65535
                · have e3 : decide (g ≤ 65535) = true := decide_eq_true h3
                  by_cases h4 : 0 ≤ b
                  · have e4 : decide (0 ≤ b) = true := decide_eq_true h4
                    by_cases h5 : b ≤ 65535
                    · have e5 : decide (b ≤ 65535) = true := decide_eq_true h5
                      by_cases h6 : 0 ≤ a
                      · have e6 : decide (0 ≤ a) = true := decide_eq_true h6
                        by_cases h7 : a ≤ 65535
                        · have e7 : decide (a ≤ 65535) = true := decide_eq_true h7
                          go_wp2
                          go_meet
                          case rel => exact ⟨true, rfl, fun _ => ⟨⟨h0, h1⟩, ⟨h2, h3⟩, ⟨h4, h5⟩, ⟨h6, h7⟩⟩, rfl⟩
                        · have e7 : decide (a ≤ 65535) = false := decide_eq_false h7
                          go_wp2
                          go_meet
                          case rel => exact ⟨false, rfl, fun h => by simp at h, rfl⟩
                      · have e6 : decide (0 ≤ a) = false := decide_eq_false h6
                        go_wp2
                        go_meet
                        case rel => exact ⟨false, rfl, fun h => by simp at h, rfl⟩
                    · have e5 : decide (b ≤ 65535) = false := decide_eq_false h5
                      go_wp2
                      go_meet
                      case rel => exact ⟨false, rfl, fun h => by simp at h, rfl⟩
                  · have e4 : decide (0 ≤ b) = false := decide_eq_false h4
                    go_wp2
                    go_meet
                    case rel => exact ⟨false, rfl, fun h => by simp at h, rfl⟩
                · have e3 : decide (g ≤ 65535) = false := decide_eq_false h3
                  go_wp2
                  go_meet
                  case rel => exact ⟨false, rfl, fun h => by simp at h, rfl⟩
              · have e2 : decide (0 ≤ g) = false := decide_eq_false h2
                go_wp2
                go_meet
                case rel => exact ⟨false, rfl, fun h => by simp at h, rfl⟩
            · have e1 : decide (r ≤ 65535) = false := decide_eq_false h1
              go_wp2
              go_meet
              case rel => exact ⟨false, rfl, fun h => by simp at h, rfl⟩
          · have e0 : decide (0 ≤ r) = false := decide_eq_false h0
            go_wp2
            go_meet
            case rel => exact ⟨false, rfl, fun h => by simp at h, rfl⟩
        case rest =>
          obtain ⟨q, rfl, HQ, rfl⟩ := hcut
          by_cases hbs : bs = 0
          · have hbs2 : (bs != 0) = false := by simpa using hbs
            cases q
            · go_wp2_with (first | (refine Aw.wpList_load_g 121 rfl rfl 35 (.tmp 11) rfl rfl hCS Try.underlying35 rfl (by kernel_rfl) ?_) | (refine Aw.wpList_load_g 122 rfl rfl 35 (.tmp 5) rfl rfl hX Try.underlying35 rfl (by kernel_rfl) ?_))
              go_ret
              exact ⟨rfl, by rw [HB.out]; exact zb_⟩
            · obtain ⟨⟨h0, h1⟩, ⟨h2, h3⟩, ⟨h4, h5⟩, ⟨h6, h7⟩⟩ := HQ.out rfl
              obtain ⟨s0, s1, s2, s3⟩ := HS.out hbs
              rw [lim_in h0 h1] at s0
              rw [lim_in h2 h3] at s1
              rw [lim_in h4 h5] at s2
              rw [lim_in h6 h7] at s3
              have t0 : (cs 0 == r) = true := by simpa using s0
              have t1 : (cs 1 == g) = true := by simpa using s1
              have t2 : (cs 2 == b) = true := by simpa using s2
              have t3 : (cs 3 == a) = true := by simpa using s3
              clear s0 s1 s2 s3 hbs
              go_wp2_with (first | (refine Aw.wpList_load_g 121 rfl rfl 35 (.tmp 11) rfl rfl hCS Try.underlying35 rfl (by kernel_rfl) ?_) | (refine Aw.wpList_load_g 122 rfl rfl 35 (.tmp 5) rfl rfl hX Try.underlying35 rfl (by kernel_rfl) ?_))
              go_ret
              exact ⟨rfl, by rw [HB.out]; exact zb_⟩
          · have hbs2 : (bs != 0) = true := by simpa using hbs
            go_wp2_with (first | (refine Aw.wpList_load_g 121 rfl rfl 35 (.tmp 11) rfl rfl hCS Try.underlying35 rfl (by kernel_rfl) ?_) | (refine Aw.wpList_load_g 122 rfl rfl 35 (.tmp 5) rfl rfl hX Try.underlying35 rfl (by kernel_rfl) ?_))
            go_ret
            exact ⟨rfl, by rw [HB.out]; exact zb_⟩
    · have u2 : decide (0 ≤ a) = false := decide_eq_false ha0
      clear hal hlr ha0
      go_upto_region 8 with fail
      clear u0 u1 u2 hbc' hbc
      go_cut [13] (fun v13 wc => ∃ q : Bool, v13 = .bool q ∧ Hid (q = true → (0 ≤ r ∧ r ≤ 65535) ∧ (0 ≤ g ∧ g ≤ 65535) ∧ (0 ≤ b ∧ b ≤ 65535) ∧ (0 ≤ a ∧ a ≤ 65535)) ∧ wc = w7)
      case first =>
        by_cases h0 : 0 ≤ r
        · have e0 : decide (0 ≤ r) = true := decide_eq_true h0
          by_cases h1 : r ≤ 65535
          · have e1 : decide (r ≤ 65535) = true := decide_eq_true h1
            by_cases h2 : 0 ≤ g
            · have e2 : decide (0 ≤ g) = true := decide_eq_true h2
              by_cases h3 : g ≤ 65535
              · have e3 : decide (g ≤ 65535) = true := decide_eq_true h3
                by_cases h4 : 0 ≤ b
                · have e4 : decide (0 ≤ b) = true := decide_eq_true h4
                  by_cases h5 : b ≤ 65535
                  · have e5 : decide (b ≤ 65535) = true := decide_eq_true h5
                    by_cases h6 : 0 ≤ a
                    · have e6 : decide (0 ≤ a) = true := decide_eq_true h6
                      by_cases h7 : a ≤ 65535
                      · have e7 : decide (a ≤ 65535) = true := decide_eq_true h7
                        go_wp2
                        go_meet
                        case rel => exact ⟨true, rfl, fun _ => ⟨⟨h0, h1⟩, ⟨h2, h3⟩, ⟨h4, h5⟩, ⟨h6, h7⟩⟩, rfl⟩
                      · have e7 : decide (a ≤ 65535) = false := decide_eq_false h7
                        go_wp2
                        go_meet
                        case rel => exact ⟨false, rfl, fun h => by simp at h, rfl⟩
                    · have e6 : decide (0 ≤ a) = false := decide_eq_false h6
                      go_wp2
                      go_meet
                      case rel => exact ⟨false, rfl, fun h => by simp at h, rfl⟩
                  · have e5 : decide (b ≤ 65535) = false := decide_eq_false h5
                    go_wp2
                    go_meet
                    case rel => exact ⟨false, rfl, fun h => by simp at h, rfl⟩
                · have e4 : decide (0 ≤ b) = false := decide_eq_false h4
                  go_wp2
                  go_meet
                  case rel => exact ⟨false, rfl, fun h => by simp at h, rfl⟩
              · have e3 : decide (g ≤ 65535) = false := decide_eq_false h3
                go_wp2
                go_meet
                case rel => exact ⟨false, rfl, fun h => by simp at h, rfl⟩
            · have e2 : decide (0 ≤ g) = false := decide_eq_false h2
              go_wp2
              go_meet
              case rel => exact ⟨false, rfl, fun h => by simp at h, rfl⟩
          · have e1 : decide (r ≤ 65535) = false := decide_eq_false h1
            go_wp2
            go_meet
            case rel => exact ⟨false, rfl, fun h => by simp at h, rfl⟩
        · have e0 : decide (0 ≤ r) = false := decide_eq_false h0
          go_wp2
          go_meet
          case rel => exact ⟨false, rfl, fun h => by simp at h, rfl⟩
      case rest =>
        obtain ⟨q, rfl, HQ, rfl⟩ := hcut
        by_cases hbs : bs = 0
        · have hbs2 : (bs != 0) = false := by simpa using hbs
          cases q
          · go_wp2_with (first | (refine Aw.wpList_load_g 121 rfl rfl 35 (.tmp 11) rfl rfl hCS Try.underlying35 rfl (by kernel_rfl) ?_) | (refine Aw.wpList_load_g 122 rfl rfl 35 (.tmp 5) rfl rfl hX Try.underlying35 rfl (by kernel_rfl) ?_))
            go_ret
            exact ⟨rfl, by rw [HB.out]; exact zb_⟩
          · obtain ⟨⟨h0, h1⟩, ⟨h2, h3⟩, ⟨h4, h5⟩, ⟨h6, h7⟩⟩ := HQ.out rfl
            obtain ⟨s0, s1, s2, s3⟩ := HS.out hbs
            rw [lim_in h0 h1] at s0
            rw [lim_in h2 h3] at s1
            rw [lim_in h4 h5] at s2
            rw [lim_in h6 h7] at s3
            have t0 : (cs 0 == r) = true := by simpa using s0
            have t1 : (cs 1 == g) = true := by simpa using s1
            have t2 : (cs 2 == b) = true := by simpa using s2
            have t3 : (cs 3 == a) = true := by simpa using s3
            clear s0 s1 s2 s3 hbs
            go_wp2_with (first | (refine Aw.wpList_load_g 121 rfl rfl 35 (.tmp 11) rfl rfl hCS Try.underlying35 rfl (by kernel_rfl) ?_) | (refine Aw.wpList_load_g 122 rfl rfl 35 (.tmp 5) rfl rfl hX Try.underlying35 rfl (by kernel_rfl) ?_))
            go_ret
            exact ⟨rfl, by rw [HB.out]; exact zb_⟩
        · have hbs2 : (bs != 0) = true := by simpa using hbs
          go_wp2_with (first | (refine Aw.wpList_load_g 121 rfl rfl 35 (.tmp 11) rfl rfl hCS Try.underlying35 rfl (by kernel_rfl) ?_) | (refine Aw.wpList_load_g 122 rfl rfl 35 (.tmp 5) rfl rfl hX Try.underlying35 rfl (by kernel_rfl) ?_))
          go_ret
          exact ⟨rfl, by rw [HB.out]; exact zb_⟩
  · have hbc' : (bc == 0) = false := by simpa using hbc
    go_upto_region 8 with fail
    clear hbc' hbc
    go_cut [13] (fun v13 wc => ∃ q : Bool, v13 = .bool q ∧ Hid (q = true → (0 ≤ r ∧ r ≤ 65535) ∧ (0 ≤ g ∧ g ≤ 65535) ∧ (0 ≤ b ∧ b ≤ 65535) ∧ (0 ≤ a ∧ a ≤ 65535)) ∧ wc = w7)
    case first =>
      by_cases h0 : 0 ≤ r
      · have e0 : decide (0 ≤ r) = true := decide_eq_true h0
        by_cases h1 : r ≤ 65535
        · have e1 : decide (r ≤ 65535) = true := decide_eq_true h1
          by_cases h2 : 0 ≤ g
          · have e2 : decide (0 ≤ g) = true := decide_eq_true h2
            by_cases h3 : g ≤ 65535
            · have e3 : decide (g ≤ 65535) = true := decide_eq_true h3
              by_cases h4 : 0 ≤ b
              · have e4 : decide (0 ≤ b) = true := decide_eq_true h4
                by_cases h5 : b ≤ 65535
                · have e5 : decide (b ≤ 65535) = true := decide_eq_true h5
                  by_cases h6 : 0 ≤ a
                  · have e6 : decide (0 ≤ a) = true := decide_eq_true h6
                    by_cases h7 : a ≤ 65535
                    · have e7 : decide (a ≤ 65535) = true := decide_eq_true h7
                      go_wp2
                      go_meet
                      case rel => exact ⟨true, rfl, fun _ => ⟨⟨h0, h1⟩, ⟨h2, h3⟩, ⟨h4, h5⟩, ⟨h6, h7⟩⟩, rfl⟩
                    · have e7 : decide (a ≤ 65535) = false := decide_eq_false h7
                      go_wp2
                      go_meet
                      case rel => exact ⟨false, rfl, fun h => by simp at h, rfl⟩
                  · have e6 : decide (0 ≤ a) = false := decide_eq_false h6
                    go_wp2
                    go_meet
                    case rel => exact ⟨false, rfl, fun h => by simp at h, rfl⟩
                · have e5 : decide (b ≤ 65535) = false := decide_eq_false h5
                  go_wp2
                  go_meet
                  case rel => exact ⟨false, rfl, fun h => by simp at h, rfl⟩
              · have e4 : decide (0 ≤ b) = false := decide_eq_false h4
                go_wp2
                go_meet
                case rel => exact ⟨false, rfl, fun h => by simp at h, rfl⟩
            · have e3 : decide (g ≤ 65535) = false := decide_eq_false h3
              go_wp2
              go_meet
              case rel => exact ⟨false, rfl, fun h => by simp at h, rfl⟩
          · have e2 : decide (0 ≤ g) = false := decide_eq_false h2
            go_wp2
            go_meet
            case rel => exact ⟨false, rfl, fun h => by simp at h, rfl⟩
        · have e1 : decide (r ≤ 65535) = false := decide_eq_false h1
          go_wp2
          go_meet
          case rel => exact ⟨false, rfl, fun h => by simp at h, rfl⟩
      · have e0 : decide (0 ≤ r) = false := decide_eq_false h0
        go_wp2
        go_meet
        case rel => exact ⟨false, rfl, fun h => by simp at h, rfl⟩
    case rest =>
      obtain ⟨q, rfl, HQ, rfl⟩ := hcut
      by_cases hbs : bs = 0
      · have hbs2 : (bs != 0) = false := by simpa using hbs
        cases q
        · go_wp2_with (first | (refine Aw.wpList_load_g 121 rfl rfl 35 (.tmp 11) rfl rfl hCS Try.underlying35 rfl (by kernel_rfl) ?_) | (refine Aw.wpList_load_g 122 rfl rfl 35 (.tmp 5) rfl rfl hX Try.underlying35 rfl (by kernel_rfl) ?_))
          go_ret
          exact ⟨rfl, by rw [HB.out]; exact zb_⟩
        · obtain ⟨⟨h0, h1⟩, ⟨h2, h3⟩, ⟨h4, h5⟩, ⟨h6, h7⟩⟩ := HQ.out rfl
          obtain ⟨s0, s1, s2, s3⟩ := HS.out hbs
          rw [lim_in h0 h1] at s0
          rw [lim_in h2 h3] at s1
          rw [lim_in h4 h5] at s2
          rw [lim_in h6 h7] at s3
          have t0 : (cs 0 == r) = true := by simpa using s0
          have t1 : (cs 1 == g) = true := by simpa using s1
          have t2 : (cs 2 == b) = true := by simpa using s2
          have t3 : (cs 3 == a) = true := by simpa using s3
          clear s0 s1 s2 s3 hbs
          go_wp2_with (first | (refine Aw.wpList_load_g 121 rfl rfl 35 (.tmp 11) rfl rfl hCS Try.underlying35 rfl (by kernel_rfl) ?_) | (refine Aw.wpList_load_g 122 rfl rfl 35 (.tmp 5) rfl rfl hX Try.underlying35 rfl (by kernel_rfl) ?_))
          go_ret
          exact ⟨rfl, by rw [HB.out]; exact zb_⟩
      · have hbs2 : (bs != 0) = true := by simpa using hbs
        go_wp2_with (first | (refine Aw.wpList_load_g 121 rfl rfl 35 (.tmp 11) rfl rfl hCS Try.underlying35 rfl (by kernel_rfl) ?_) | (refine Aw.wpList_load_g 122 rfl rfl 35 (.tmp 5) rfl rfl hX Try.underlying35 rfl (by kernel_rfl) ?_))
        go_ret
        exact ⟨rfl, by rw [HB.out]; exact zb_⟩
end Go.Proofs.Ytlpfepcmpccbeaa.Lw
