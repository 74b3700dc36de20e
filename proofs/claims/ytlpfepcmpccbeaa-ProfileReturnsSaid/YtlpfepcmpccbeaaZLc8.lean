import Derived.Test.YtlpfepcmpccbeaaZV
import Derived.Test.YtlpfepcmpccbeaaZLc4
import Derived.Test.YtlpfepcmpccbeaaZU
/-
  The law ProfileReturns: its walk.
-/
namespace Go.Proofs.Ytlpfepcmpccbeaa.Lw
open Go.RowKit Go.Proofs.Ytlpfepcmpccbeaa.NM Go.Proofs.Ytlpfepcmpccbeaa.Cv Go.Proofs.Ytlpfepcmpccbeaa.Wi Go.Proofs.Ytlpfepcmpccbeaa.Nm9 Go.Proofs.Ytlpfepcmpccbeaa.Mx Go.Proofs.Ytlpfepcmpccbeaa.Pf Go.Proofs.Ytlpfepcmpccbeaa.Pt Go.Proofs.Ytlpfepcmpccbeaa.Aw Go.Proofs.Ytlpfepcmpccbeaa.PNum Go.Proofs.YtlpfepcmpccbeaaW.PrintWords Go.Proofs.YtlpfepcmpccbeaaW.PrintMore Go.Proofs.YtlpfepcmpccbeaaW.PrintLast
attribute [local go_sem] eq9 eq3 eg9 eg3
attribute [local go_sem high] eqA35
set_option linter.unusedVariables false
theorem bytesP_size {nm : ByteArray} {l : List Kn} {m : Nat → Int} (hs : nm.size ≤ 140737488355232) : (bytesP nm l m).size ≤ 140737488355232 := by
  unfold bytesP
  split
  · rename_i h
    obtain ⟨⟨h1, -⟩, -, hk, -, -⟩ := prof_ok h
    obtain ⟨-, hl, -⟩ := checkK_zero hk
    have a1 := accM_size (accK (headS nm l) l l.length) m 9
    have a2 := accK_size (headS nm l) l l.length
    have a3 := textS_size nm
    have a4 := uintS_size (l.length : Int)
    have a5 : (headS nm l).size = (textS nm).size + (uintS (l.length : Int)).size := ByteArray.size_append
    unfold bytesV
    omega
  · show (0 : Nat) ≤ _; omega
theorem back_parse {nm : ByteArray} {l : List Kn} {m : Nat → Int} (hs : nm.size ≤ 140737488355232) (hm9 : ∀ k, 9 ≤ k → m k = 0) (h : profCheck nm l m = 0) (w' : World) :
    Calls Try.prog 29 #[.string (bytesP nm l m)] w' fun e w'' => ∃ A1 c1, e = .returned (.tuple #[.agg (profC nm (.slice A1 l.length c1) m), .int .i64 0]) ∧ Kd.C k72 w'' A1 l.length l ∧ l.length ≤ c1 ∧ Below w'.heap.size w' w'' := by
  have hb : bytesP nm l m = bytesV nm l m := if_pos h
  have hz : (bytesV nm l m).size ≤ 140737488355232 := by rw [← hb]; exact bytesP_size hs
  obtain ⟨q0, q1, q2, q3⟩ := parse_of h hm9
  have := pParse_any (bytesV nm l m) w' hz
  rw [q0, q1, q2, q3] at this
  rw [hb]
  exact this
theorem cut_parse {nm : ByteArray} {l : List Kn} {m : Nat → Int} (hs : nm.size ≤ 140737488355232) (h : profCheck nm l m = 0) {k : Nat} (hk : k < (bytesP nm l m).size) (w' : World) :
    Calls Try.prog 29 #[.string ((bytesP nm l m).extract 0 k)] w' fun e w'' => ∃ (nm' : ByteArray) (A1 : Option Addr) (c1 : Nat) (l' : List Kn) (m' : Nat → Int), e = .returned (.tuple #[.agg (profC nm' (.slice A1 l'.length c1) m'), .int .i64 5]) ∧ Below w'.heap.size w' w'' := by
  have hb : bytesP nm l m = bytesV nm l m := if_pos h
  have hz : (bytesV nm l m).size ≤ 140737488355232 := by rw [← hb]; exact bytesP_size hs
  rw [hb] at hk ⊢
  have h5 := cut_short h hk
  have hc := cutB_size (Nat.le_of_lt hk)
  have := pParse_any (cutB (bytesV nm l m) k) w' (by omega)
  rw [h5] at this
  refine this.mono ?_
  rintro e w'' ⟨A1, c1, rfl, -, -, b⟩
  exact ⟨_, A1, c1, _, _, rfl, b⟩
set_option maxRecDepth 20000 in
set_option maxHeartbeats 2000000 in
theorem returns_true9 (nm : ByteArray) (A : Option Addr) (c : Nat) (l : List Kn) (m : Nat → Int) (cut : Int) (w : World) (hs : nm.size ≤ 140737488355232) (hl : l.length ≤ 140737488355232) (hr : Kd.C k72 w A l.length l) (hc : l.length ≤ c) (hm9 : ∀ k, 9 ≤ k → m k = 0) :
    Calls Try.prog 8 #[.agg (profC nm (.slice A l.length c) m), .int .i64 cut] w fun e w' => e = .returned (.bool true) ∧ Below w.heap.size w w' := by
  have HBY : Hid (∀ w', Below w.heap.size w w' → Calls Try.prog 17 #[.agg (profC nm (.slice A l.length c) m)] w' fun e w'' => e = .returned (.tuple #[.string (bytesP nm l m), .int .i64 (profCheck nm l m)]) ∧ Below w'.heap.size w' w'') := fun w' hb => pBytes_any nm A c l m w' hs (Kd.C_below hr hb) hc
  have HCK : Hid (∀ w', Below w.heap.size w w' → Calls Try.prog 22 #[.agg (profC nm (.slice A l.length c) m)] w' fun e w'' => e = .returned (.int .i64 (profCheck nm l m)) ∧ Below w'.heap.size w' w'') := fun w' hb => pcheck_any nm A c l m w' hs (Kd.C_below hr hb) hc
  have HCR : Hid (∀ w', Below w.heap.size w w' → Kd.C k72 w' A l.length l) := fun w' hb => Kd.C_below hr hb
  have HPA : Hid ((profCheck nm l m) = 0 → ∀ w' : World, Calls Try.prog 29 #[.string (bytesP nm l m)] w' fun e w'' => ∃ A1 c1, e = .returned (.tuple #[.agg (profC nm (.slice A1 l.length c1) m), .int .i64 0]) ∧ Kd.C k72 w'' A1 l.length l ∧ l.length ≤ c1 ∧ Below w'.heap.size w' w'') := fun h w' => back_parse hs hm9 h w'
  have HPC : Hid ((profCheck nm l m) = 0 → ∀ k : Nat, k < (bytesP nm l m).size → ∀ w' : World, Calls Try.prog 29 #[.string ((bytesP nm l m).extract 0 k)] w' fun e w'' => ∃ (nm' : ByteArray) (A1 : Option Addr) (c1 : Nat) (l' : List Kn) (m' : Nat → Int), e = .returned (.tuple #[.agg (profC nm' (.slice A1 l'.length c1) m'), .int .i64 5]) ∧ Below w'.heap.size w' w'') := fun h k hk w' => cut_parse hs h hk w'
  have hbs : (bytesP nm l m).size ≤ 140737488355232 := bytesP_size hs
  generalize (bytesP nm l m) = bp at *
  generalize (profCheck nm l m) = pc at *
  go_enter Try.func8, Try.ntmps8
  go_upto_region 1 with fail
  have h0 : holdsC (w.alloc (.cells (profC nm (.slice A l.length c) m) 25)) w.heap.size 25 (profC nm (.slice A l.length c) m) := by
    have h : holdsC (w.alloc (.cells (profC nm (.slice A l.length c) m) 25)) w.heap.size 25 (profC nm (.slice A l.length c) m) := heap_alloc_new _ _
    have h := h
    exact h
  have hb : Below w.heap.size w (w.alloc (.cells (profC nm (.slice A l.length c) m) 25)) := ((Below.refl _ _).alloc (Nat.le_refl _) _)
  generalize (w.alloc (.cells (profC nm (.slice A l.length c) m) 25)) = wc at *
  generalize hB : w.heap.size = B at *
  have HB := Lib.hid hB
  clear hB
  go_wp2_with (refine wpList_load_row rfl 25 (.tmp 2) rfl B rfl 25 (profC nm (.slice A l.length c) m) (0, 0) _ h0 Try.underlying25 rfl (profC_info _ _ _) ?_)
  refine (HBY.out _ hb).mono ?_; rintro e w1 ⟨rfl, b1⟩
  have g0_ := h0.kept b1 h0.lt
  have gb_ := hb.trans (b1.mono (Nat.le_trans (Nat.le_of_eq HB.out.symm) hb.size))
  clear h0 hb b1
  by_cases hpc : pc = 0
  · have hpc2 : (pc != 0) = false := by simpa using hpc
    go_wp2_with fail
    refine (HPA.out hpc _).mono ?_; rintro e w2 ⟨A1, c1, rfl, hC1, hc1, b1⟩
    have k0_ := g0_.kept b1 g0_.lt
    have kb_ := gb_.trans (b1.mono (Nat.le_trans (Nat.le_of_eq HB.out.symm) gb_.size))
    clear g0_ gb_ b1
    have HC1_0 : Hid (∀  w', Below w2.heap.size w2 w' → Kd.C k72 w' A1 l.length l) := fun w' h => Kd.C_below hC1 h
    clear hC1
    have H3 : holdsC (w2.alloc (.cells #[.string ⟨#[]⟩, .slice none 0 0, .int .i64 0, .int .i64 0, .int .i64 0, .int .i64 0, .int .i64 0, .int .i64 0, .int .i64 0, .int .i64 0, .int .i64 0] 25)) w2.heap.size 25 #[.string ⟨#[]⟩, .slice none 0 0, .int .i64 0, .int .i64 0, .int .i64 0, .int .i64 0, .int .i64 0, .int .i64 0, .int .i64 0, .int .i64 0, .int .i64 0] := heap_alloc_new _ _
    have u0_ := (k0_.alloc (.cells #[.string ⟨#[]⟩, .slice none 0 0, .int .i64 0, .int .i64 0, .int .i64 0, .int .i64 0, .int .i64 0, .int .i64 0, .int .i64 0, .int .i64 0, .int .i64 0] 25)).setRowOther (g' := w2.heap.size) (by have := k0_.lt; omega) (profC nm (.slice A1 l.length c1) m)
    have nu0_ : B < w2.heap.size := k0_.lt
    have u1_ := holdsC_row H3 (profC nm (.slice A1 l.length c1) m)
    have nq1 : B ≤ w2.heap.size := by rw [← HB.out]; exact kb_.size
    have ub_ := below_setRow (kb_.alloc nq1 (.cells #[.string ⟨#[]⟩, .slice none 0 0, .int .i64 0, .int .i64 0, .int .i64 0, .int .i64 0, .int .i64 0, .int .i64 0, .int .i64 0, .int .i64 0, .int .i64 0] 25)) nq1 (profC nm (.slice A1 l.length c1) m)
    have bb := below_setRow ((Below.refl w2.heap.size w2).alloc (Nat.le_refl _) (.cells #[.string ⟨#[]⟩, .slice none 0 0, .int .i64 0, .int .i64 0, .int .i64 0, .int .i64 0, .int .i64 0, .int .i64 0, .int .i64 0, .int .i64 0, .int .i64 0] 25)) (Nat.le_refl _) (profC nm (.slice A1 l.length c1) m)
    have HC1_1 : Hid (∀  w', Below ((w2.alloc (.cells #[.string ⟨#[]⟩, .slice none 0 0, .int .i64 0, .int .i64 0, .int .i64 0, .int .i64 0, .int .i64 0, .int .i64 0, .int .i64 0, .int .i64 0, .int .i64 0] 25)).setRow w2.heap.size (profC nm (.slice A1 l.length c1) m)).heap.size ((w2.alloc (.cells #[.string ⟨#[]⟩, .slice none 0 0, .int .i64 0, .int .i64 0, .int .i64 0, .int .i64 0, .int .i64 0, .int .i64 0, .int .i64 0, .int .i64 0, .int .i64 0] 25)).setRow w2.heap.size (profC nm (.slice A1 l.length c1) m)) w' → Kd.C k72 w' A1 l.length l) := fun  w' h => HC1_0.out  w' (bb.trans (h.mono bb.size))
    clear HC1_0
    clear bb
    go_upto_region 5 with (first | (refine wpList_store_row rfl 25 (.tmp 7) (.tmp 28) rfl _ (profC nm (.slice A1 l.length c1) m) rfl rfl 25 _ H3 (profC_info _ _ _) (by rw [profC_size]; rfl) (profC_one _ _ _ rfl) ?_))
    clear H3 k0_ kb_
    generalize (w2.alloc (.cells #[.string ⟨#[]⟩, .slice none 0 0, .int .i64 0, .int .i64 0, .int .i64 0, .int .i64 0, .int .i64 0, .int .i64 0, .int .i64 0, .int .i64 0, .int .i64 0] 25)).setRow w2.heap.size (profC nm (.slice A1 l.length c1) m) = w3 at *
    generalize w2.heap.size = q1 at *
    go_wp2_with (first
      | (refine Aw.wpList_load_g 33 rfl rfl 25 (.tmp 2) rfl rfl u0_ Try.underlying25 rfl (profC_info _ _ _) ?_)
      | (refine Aw.wpList_load_g 34 rfl rfl 25 (.tmp 7) rfl rfl u1_ Try.underlying25 rfl (profC_info _ _ _) ?_))
    refine (same_true nm l m A A1 c c1 _ hl (HCR.out _ ub_) (HC1_1.out _ (Below.refl _ _))).mono ?_; rintro e w4 ⟨rfl, b1⟩
    have v0_ := u0_.kept b1 u0_.lt
    have v1_ := u1_.kept b1 u1_.lt
    have vb_ := ub_.trans (b1.mono (Nat.le_trans (Nat.le_of_eq HB.out.symm) ub_.size))
    have HC1_2 : Hid (∀  w', Below w4.heap.size w4 w' → Kd.C k72 w' A1 l.length l) := fun  w' h => HC1_1.out  w' (b1.trans (h.mono b1.size))
    clear HC1_1
    clear u0_ u1_ ub_ b1
    go_wp2_with fail
    refine (awake_true _).mono ?_; rintro e w5 ⟨rfl, b1⟩
    have x0_ := v0_.kept b1 v0_.lt
    have x1_ := v1_.kept b1 v1_.lt
    have xb_ := vb_.trans (b1.mono (Nat.le_trans (Nat.le_of_eq HB.out.symm) vb_.size))
    have HC1_3 : Hid (∀  w', Below w5.heap.size w5 w' → Kd.C k72 w' A1 l.length l) := fun  w' h => HC1_2.out  w' (b1.trans (h.mono b1.size))
    clear HC1_2
    clear v0_ v1_ vb_ b1
    by_cases h0 : cut < 0
    · have d0 : decide (cut < 0) = true := decide_eq_true h0
      go_wp2
      go_ret
      exact ⟨rfl, by rw [HB.out]; exact xb_⟩
    · have d0 : decide (cut < 0) = false := decide_eq_false h0
      by_cases h1 : (bp.size : Int) ≤ cut
      · have d1 : decide ((bp.size : Int) ≤ cut) = true := decide_eq_true h1
        go_wp2
        go_ret
        exact ⟨rfl, by rw [HB.out]; exact xb_⟩
      · have d1 : decide ((bp.size : Int) ≤ cut) = false := decide_eq_false h1
        obtain ⟨k, rfl⟩ : ∃ k : Nat, cut = (k : Int) := ⟨cut.toNat, by omega⟩
        have hk : k < bp.size := by omega
        have hcon := HPC.out hpc k hk
        go_wp2_with fail
        refine (hcon _).mono ?_; rintro e w6 ⟨nm2, A2, c2, l2, m2, rfl, b1⟩
        have y0_ := x0_.kept b1 x0_.lt
        have y1_ := x1_.kept b1 x1_.lt
        have yb_ := xb_.trans (b1.mono (Nat.le_trans (Nat.le_of_eq HB.out.symm) xb_.size))
        have HC1_4 : Hid (∀  w', Below w6.heap.size w6 w' → Kd.C k72 w' A1 l.length l) := fun  w' h => HC1_3.out  w' (b1.trans (h.mono b1.size))
        clear HC1_3
        clear x0_ x1_ xb_ b1
        have H3 : holdsC (w6.alloc (.cells #[.string ⟨#[]⟩, .slice none 0 0, .int .i64 0, .int .i64 0, .int .i64 0, .int .i64 0, .int .i64 0, .int .i64 0, .int .i64 0, .int .i64 0, .int .i64 0] 25)) w6.heap.size 25 #[.string ⟨#[]⟩, .slice none 0 0, .int .i64 0, .int .i64 0, .int .i64 0, .int .i64 0, .int .i64 0, .int .i64 0, .int .i64 0, .int .i64 0, .int .i64 0] := heap_alloc_new _ _
        have z0_ := (y0_.alloc (.cells #[.string ⟨#[]⟩, .slice none 0 0, .int .i64 0, .int .i64 0, .int .i64 0, .int .i64 0, .int .i64 0, .int .i64 0, .int .i64 0, .int .i64 0, .int .i64 0] 25)).setRowOther (g' := w6.heap.size) (by have := y0_.lt; omega) (profC nm2 (.slice A2 l2.length c2) m2)
        have nz0_ : B < w6.heap.size := y0_.lt
        have z1_ := (y1_.alloc (.cells #[.string ⟨#[]⟩, .slice none 0 0, .int .i64 0, .int .i64 0, .int .i64 0, .int .i64 0, .int .i64 0, .int .i64 0, .int .i64 0, .int .i64 0, .int .i64 0] 25)).setRowOther (g' := w6.heap.size) (by have := y1_.lt; omega) (profC nm2 (.slice A2 l2.length c2) m2)
        have nz1_ : q1 < w6.heap.size := y1_.lt
        have z2_ := holdsC_row H3 (profC nm2 (.slice A2 l2.length c2) m2)
        have nq2 : B ≤ w6.heap.size := by rw [← HB.out]; exact yb_.size
        have zb_ := below_setRow (yb_.alloc nq2 (.cells #[.string ⟨#[]⟩, .slice none 0 0, .int .i64 0, .int .i64 0, .int .i64 0, .int .i64 0, .int .i64 0, .int .i64 0, .int .i64 0, .int .i64 0, .int .i64 0] 25)) nq2 (profC nm2 (.slice A2 l2.length c2) m2)
        have bb := below_setRow ((Below.refl w6.heap.size w6).alloc (Nat.le_refl _) (.cells #[.string ⟨#[]⟩, .slice none 0 0, .int .i64 0, .int .i64 0, .int .i64 0, .int .i64 0, .int .i64 0, .int .i64 0, .int .i64 0, .int .i64 0, .int .i64 0] 25)) (Nat.le_refl _) (profC nm2 (.slice A2 l2.length c2) m2)
        have HC1_5 : Hid (∀  w', Below ((w6.alloc (.cells #[.string ⟨#[]⟩, .slice none 0 0, .int .i64 0, .int .i64 0, .int .i64 0, .int .i64 0, .int .i64 0, .int .i64 0, .int .i64 0, .int .i64 0, .int .i64 0] 25)).setRow w6.heap.size (profC nm2 (.slice A2 l2.length c2) m2)).heap.size ((w6.alloc (.cells #[.string ⟨#[]⟩, .slice none 0 0, .int .i64 0, .int .i64 0, .int .i64 0, .int .i64 0, .int .i64 0, .int .i64 0, .int .i64 0, .int .i64 0, .int .i64 0] 25)).setRow w6.heap.size (profC nm2 (.slice A2 l2.length c2) m2)) w' → Kd.C k72 w' A1 l.length l) := fun  w' h => HC1_4.out  w' (bb.trans (h.mono bb.size))
        clear HC1_4
        clear bb
        go_upto_region 10 with (first | (refine wpList_store_row rfl 25 (.tmp 9) (.tmp 55) rfl _ (profC nm2 (.slice A2 l2.length c2) m2) rfl rfl 25 _ H3 (profC_info _ _ _) (by rw [profC_size]; rfl) (profC_one _ _ _ rfl) ?_))
        clear H3 y0_ y1_ yb_
        generalize (w6.alloc (.cells #[.string ⟨#[]⟩, .slice none 0 0, .int .i64 0, .int .i64 0, .int .i64 0, .int .i64 0, .int .i64 0, .int .i64 0, .int .i64 0, .int .i64 0, .int .i64 0] 25)).setRow w6.heap.size (profC nm2 (.slice A2 l2.length c2) m2) = w7 at *
        generalize w6.heap.size = q2 at *
        go_wp2
        go_ret
        exact ⟨rfl, by rw [HB.out]; exact zb_⟩
  · have hpc2 : (pc != 0) = true := by simpa using hpc
    go_wp2_with (refine wpList_load_row rfl 25 (.tmp 2) rfl B rfl 25 (profC nm (.slice A l.length c) m) (0, 0) _ g0_ Try.underlying25 rfl (profC_info _ _ _) ?_)
    refine (HCK.out _ gb_).mono ?_; rintro e w2 ⟨rfl, b1⟩
    have k0_ := g0_.kept b1 g0_.lt
    have kb_ := gb_.trans (b1.mono (Nat.le_trans (Nat.le_of_eq HB.out.symm) gb_.size))
    clear g0_ gb_ b1
    have ep : (pc == pc) = true := by simp
    go_wp2_with fail
    refine (awake_true _).mono ?_; rintro e w3 ⟨rfl, b1⟩
    have u0_ := k0_.kept b1 k0_.lt
    have ub_ := kb_.trans (b1.mono (Nat.le_trans (Nat.le_of_eq HB.out.symm) kb_.size))
    clear k0_ kb_ b1
    go_wp2
    go_ret
    exact ⟨rfl, by rw [HB.out]; exact ub_⟩
theorem returns_true (nm : ByteArray) (A : Option Addr) (c : Nat) (l : List Kn) (m : Nat → Int) (cut : Int) (w : World) (hs : nm.size ≤ 140737488355232) (hl : l.length ≤ 140737488355232) (hr : Kd.C k72 w A l.length l) (hc : l.length ≤ c) :
    Calls Try.prog 8 #[.agg (profC nm (.slice A l.length c) m), .int .i64 cut] w fun e w' => e = .returned (.bool true) ∧ Below w.heap.size w w' := by
  have e : profC nm (.slice A l.length c) m = profC nm (.slice A l.length c) (fun k => if k < 9 then m k else 0) := by
    unfold profC
    rw [arrN_congr (p := fun k => if k < 9 then m k else 0) (fun k hk => (if_pos hk).symm)]
  rw [e]
  exact returns_true9 nm A c l _ cut w hs hl hr hc (fun k hk => if_neg (by omega))
end Go.Proofs.Ytlpfepcmpccbeaa.Lw
