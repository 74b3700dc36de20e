import Derived.Test.YtlpfepcmpccbeaaZV
import Derived.Test.YtlpfepcmpccbeaaZLc4
import Derived.Test.YtlpfepcmpccbeaaZU
import Derived.Test.YtlpfepcmpccbeaaZT
/-
  The law ProfileParses: its walk.
-/
namespace Go.Proofs.Ytlpfepcmpccbeaa.Lw
open Go.RowKit Go.Proofs.Ytlpfepcmpccbeaa.NM Go.Proofs.Ytlpfepcmpccbeaa.Cv Go.Proofs.Ytlpfepcmpccbeaa.Wi Go.Proofs.Ytlpfepcmpccbeaa.Nm9 Go.Proofs.Ytlpfepcmpccbeaa.Mx Go.Proofs.Ytlpfepcmpccbeaa.Pf Go.Proofs.Ytlpfepcmpccbeaa.Pt Go.Proofs.Ytlpfepcmpccbeaa.Aw Go.Proofs.Ytlpfepcmpccbeaa.PNum Go.Proofs.YtlpfepcmpccbeaaW.PrintWords Go.Proofs.YtlpfepcmpccbeaaW.PrintMore Go.Proofs.YtlpfepcmpccbeaaW.PrintLast
attribute [local go_sem] eq9 eq3 eg9 eg3
attribute [local go_sem high] eqA35
set_option linter.unusedVariables false
theorem parseN_size (s : ByteArray) (hs : s.size ≤ 140737488355232) : (parseN s).size ≤ 140737488355232 := by
  unfold parseN
  split
  · have := psN_size s; omega
  · show (0 : Nat) ≤ _; omega
theorem parseL_len (s : ByteArray) : (parseL s).length ≤ 140737488355232 := by
  unfold parseL
  split
  · rw [psL_len]; have := psK_le s; omega
  · show (0 : Nat) ≤ _; omega
theorem parse_check (s : ByteArray) (h : parseC s = 0) : profCheck (parseN s) (parseL s) (parseM s) = 0 := by
  have q1 : parseN s = (psN s).1 := if_pos h
  have q2 : parseL s = psL s := if_pos h
  have q3 : parseM s = psMn s 9 := if_pos h
  rw [q1, q2, q3]
  exact (parse_ok s h).2
set_option maxRecDepth 20000 in
set_option maxHeartbeats 2000000 in
theorem parses_true (s : ByteArray) (w : World) (hs : s.size ≤ 140737488355232) :
    Calls Try.prog 7 #[.string s] w fun e w' => e = .returned (.bool true) ∧ Below w.heap.size w w' := by
  have HP1 : Hid (∀ w' : World, Calls Try.prog 29 #[.string s] w' fun e w'' => ∃ A1 c1, e = .returned (.tuple #[.agg (profC (parseN s) (.slice A1 (parseL s).length c1) (parseM s)), .int .i64 (parseC s)]) ∧ Kd.C k72 w'' A1 (parseL s).length (parseL s) ∧ (parseL s).length ≤ c1 ∧ Below w'.heap.size w' w'') := fun w' => pParse_any s w' hs
  have HP2 : Hid (∀ w' : World, Calls Try.prog 30 #[.string s] w' fun e w'' => ∃ A1 c1, e = .returned (.tuple #[.agg (profC (parseN s) (.slice A1 (parseL s).length c1) (parseM s)), .int .i64 (parseC s)]) ∧ Kd.C k72 w'' A1 (parseL s).length (parseL s) ∧ (parseL s).length ≤ c1 ∧ Below w'.heap.size w' w'') := fun w' => rParse_any s w' hs
  have HBY : Hid (∀ A1 c1 w', Kd.C k72 w' A1 (parseL s).length (parseL s) → (parseL s).length ≤ c1 → Calls Try.prog 17 #[.agg (profC (parseN s) (.slice A1 (parseL s).length c1) (parseM s))] w' fun e w'' => e = .returned (.tuple #[.string (bytesP (parseN s) (parseL s) (parseM s)), .int .i64 (profCheck (parseN s) (parseL s) (parseM s))]) ∧ Below w'.heap.size w' w'') := fun A1 c1 w' h1 h2 => pBytes_any (parseN s) A1 c1 (parseL s) (parseM s) w' (parseN_size s hs) h1 h2
  have HOK : Hid (parseC s = 0 → bytesP (parseN s) (parseL s) (parseM s) = s ∧ profCheck (parseN s) (parseL s) (parseM s) = 0) := fun h => ⟨parse_bytes s h, parse_check s h⟩
  have hlen : (parseL s).length ≤ 140737488355232 := parseL_len s
  generalize bytesP (parseN s) (parseL s) (parseM s) = bp at *
  generalize profCheck (parseN s) (parseL s) (parseM s) = pc at *
  generalize parseN s = pn at *
  generalize parseL s = pl at *
  generalize parseM s = pm at *
  generalize parseC s = ec at *
  go_enter Try.func7, Try.ntmps7
  have hb := Below.refl w.heap.size w
  generalize hB : w.heap.size = B at *
  have HB := Lib.hid hB
  clear hB
  go_wp2_with fail
  refine (HP1.out _).mono ?_; rintro e w1 ⟨A1, c1, rfl, hC1, hc1, b1⟩
  have gb_ := hb.trans (b1.mono (Nat.le_trans (Nat.le_of_eq HB.out.symm) hb.size))
  clear hb b1
  have HC1_0 : Hid (∀  w', Below w1.heap.size w1 w' → Kd.C k72 w' A1 pl.length pl) := fun w' h => Kd.C_below hC1 h
  clear hC1
  have H3 : holdsC (w1.alloc (.cells #[.string ⟨#[]⟩, .slice none 0 0, .int .i64 0, .int .i64 0, .int .i64 0, .int .i64 0, .int .i64 0, .int .i64 0, .int .i64 0, .int .i64 0, .int .i64 0] 25)) w1.heap.size 25 #[.string ⟨#[]⟩, .slice none 0 0, .int .i64 0, .int .i64 0, .int .i64 0, .int .i64 0, .int .i64 0, .int .i64 0, .int .i64 0, .int .i64 0, .int .i64 0] := heap_alloc_new _ _
  have k0_ := holdsC_row H3 (profC pn (.slice A1 pl.length c1) pm)
  have nq1 : B ≤ w1.heap.size := by rw [← HB.out]; exact gb_.size
  have kb_ := below_setRow (gb_.alloc nq1 (.cells #[.string ⟨#[]⟩, .slice none 0 0, .int .i64 0, .int .i64 0, .int .i64 0, .int .i64 0, .int .i64 0, .int .i64 0, .int .i64 0, .int .i64 0, .int .i64 0] 25)) nq1 (profC pn (.slice A1 pl.length c1) pm)
  have bb := below_setRow ((Below.refl w1.heap.size w1).alloc (Nat.le_refl _) (.cells #[.string ⟨#[]⟩, .slice none 0 0, .int .i64 0, .int .i64 0, .int .i64 0, .int .i64 0, .int .i64 0, .int .i64 0, .int .i64 0, .int .i64 0, .int .i64 0] 25)) (Nat.le_refl _) (profC pn (.slice A1 pl.length c1) pm)
  have HC1_1 : Hid (∀  w', Below ((w1.alloc (.cells #[.string ⟨#[]⟩, .slice none 0 0, .int .i64 0, .int .i64 0, .int .i64 0, .int .i64 0, .int .i64 0, .int .i64 0, .int .i64 0, .int .i64 0, .int .i64 0] 25)).setRow w1.heap.size (profC pn (.slice A1 pl.length c1) pm)).heap.size ((w1.alloc (.cells #[.string ⟨#[]⟩, .slice none 0 0, .int .i64 0, .int .i64 0, .int .i64 0, .int .i64 0, .int .i64 0, .int .i64 0, .int .i64 0, .int .i64 0, .int .i64 0] 25)).setRow w1.heap.size (profC pn (.slice A1 pl.length c1) pm)) w' → Kd.C k72 w' A1 pl.length pl) := fun  w' h => HC1_0.out  w' (bb.trans (h.mono bb.size))
  clear HC1_0
  clear bb
  go_upto_region 2 with (first | (refine wpList_store_row rfl 25 (.tmp 3) (.tmp 12) rfl _ (profC pn (.slice A1 pl.length c1) pm) rfl rfl 25 _ H3 (profC_info _ _ _) (by rw [profC_size]; rfl) (profC_one _ _ _ rfl) ?_))
  clear H3  gb_
  generalize (w1.alloc (.cells #[.string ⟨#[]⟩, .slice none 0 0, .int .i64 0, .int .i64 0, .int .i64 0, .int .i64 0, .int .i64 0, .int .i64 0, .int .i64 0, .int .i64 0, .int .i64 0] 25)).setRow w1.heap.size (profC pn (.slice A1 pl.length c1) pm) = w2 at *
  generalize w1.heap.size = q1 at *
  go_wp2_with fail
  refine (HP2.out _).mono ?_; rintro e w3 ⟨A2, c2, rfl, hC2, hc2, b1⟩
  have u0_ := k0_.kept b1 k0_.lt
  have ub_ := kb_.trans (b1.mono (Nat.le_trans (Nat.le_of_eq HB.out.symm) kb_.size))
  have HC1_2 : Hid (∀  w', Below w3.heap.size w3 w' → Kd.C k72 w' A1 pl.length pl) := fun  w' h => HC1_1.out  w' (b1.trans (h.mono b1.size))
  clear HC1_1
  clear k0_ kb_ b1
  have HC2_0 : Hid (∀  w', Below w3.heap.size w3 w' → Kd.C k72 w' A2 pl.length pl) := fun w' h => Kd.C_below hC2 h
  clear hC2
  have H3 : holdsC (w3.alloc (.cells #[.string ⟨#[]⟩, .slice none 0 0, .int .i64 0, .int .i64 0, .int .i64 0, .int .i64 0, .int .i64 0, .int .i64 0, .int .i64 0, .int .i64 0, .int .i64 0] 25)) w3.heap.size 25 #[.string ⟨#[]⟩, .slice none 0 0, .int .i64 0, .int .i64 0, .int .i64 0, .int .i64 0, .int .i64 0, .int .i64 0, .int .i64 0, .int .i64 0, .int .i64 0] := heap_alloc_new _ _
  have v0_ := (u0_.alloc (.cells #[.string ⟨#[]⟩, .slice none 0 0, .int .i64 0, .int .i64 0, .int .i64 0, .int .i64 0, .int .i64 0, .int .i64 0, .int .i64 0, .int .i64 0, .int .i64 0] 25)).setRowOther (g' := w3.heap.size) (by have := u0_.lt; omega) (profC pn (.slice A2 pl.length c2) pm)
  have nv0_ : q1 < w3.heap.size := u0_.lt
  have v1_ := holdsC_row H3 (profC pn (.slice A2 pl.length c2) pm)
  have nq2 : B ≤ w3.heap.size := by rw [← HB.out]; exact ub_.size
  have vb_ := below_setRow (ub_.alloc nq2 (.cells #[.string ⟨#[]⟩, .slice none 0 0, .int .i64 0, .int .i64 0, .int .i64 0, .int .i64 0, .int .i64 0, .int .i64 0, .int .i64 0, .int .i64 0, .int .i64 0] 25)) nq2 (profC pn (.slice A2 pl.length c2) pm)
  have bb := below_setRow ((Below.refl w3.heap.size w3).alloc (Nat.le_refl _) (.cells #[.string ⟨#[]⟩, .slice none 0 0, .int .i64 0, .int .i64 0, .int .i64 0, .int .i64 0, .int .i64 0, .int .i64 0, .int .i64 0, .int .i64 0, .int .i64 0] 25)) (Nat.le_refl _) (profC pn (.slice A2 pl.length c2) pm)
  have HC1_3 : Hid (∀  w', Below ((w3.alloc (.cells #[.string ⟨#[]⟩, .slice none 0 0, .int .i64 0, .int .i64 0, .int .i64 0, .int .i64 0, .int .i64 0, .int .i64 0, .int .i64 0, .int .i64 0, .int .i64 0] 25)).setRow w3.heap.size (profC pn (.slice A2 pl.length c2) pm)).heap.size ((w3.alloc (.cells #[.string ⟨#[]⟩, .slice none 0 0, .int .i64 0, .int .i64 0, .int .i64 0, .int .i64 0, .int .i64 0, .int .i64 0, .int .i64 0, .int .i64 0, .int .i64 0] 25)).setRow w3.heap.size (profC pn (.slice A2 pl.length c2) pm)) w' → Kd.C k72 w' A1 pl.length pl) := fun  w' h => HC1_2.out  w' (bb.trans (h.mono bb.size))
  clear HC1_2
  have HC2_1 : Hid (∀  w', Below ((w3.alloc (.cells #[.string ⟨#[]⟩, .slice none 0 0, .int .i64 0, .int .i64 0, .int .i64 0, .int .i64 0, .int .i64 0, .int .i64 0, .int .i64 0, .int .i64 0, .int .i64 0] 25)).setRow w3.heap.size (profC pn (.slice A2 pl.length c2) pm)).heap.size ((w3.alloc (.cells #[.string ⟨#[]⟩, .slice none 0 0, .int .i64 0, .int .i64 0, .int .i64 0, .int .i64 0, .int .i64 0, .int .i64 0, .int .i64 0, .int .i64 0, .int .i64 0] 25)).setRow w3.heap.size (profC pn (.slice A2 pl.length c2) pm)) w' → Kd.C k72 w' A2 pl.length pl) := fun  w' h => HC2_0.out  w' (bb.trans (h.mono bb.size))
  clear HC2_0
  clear bb
  go_upto_region 3 with (first | (refine wpList_store_row rfl 25 (.tmp 5) (.tmp 17) rfl _ (profC pn (.slice A2 pl.length c2) pm) rfl rfl 25 _ H3 (profC_info _ _ _) (by rw [profC_size]; rfl) (profC_one _ _ _ rfl) ?_))
  clear H3 u0_ ub_
  generalize (w3.alloc (.cells #[.string ⟨#[]⟩, .slice none 0 0, .int .i64 0, .int .i64 0, .int .i64 0, .int .i64 0, .int .i64 0, .int .i64 0, .int .i64 0, .int .i64 0, .int .i64 0] 25)).setRow w3.heap.size (profC pn (.slice A2 pl.length c2) pm) = w4 at *
  generalize w3.heap.size = q2 at *
  have nn : ∀ x : Int, (x != x) = false := fun x => by simp
  go_wp2_with (first
    | (refine Aw.wpList_load_g 23 rfl rfl 25 (.tmp 3) rfl rfl v0_ Try.underlying25 rfl (profC_info _ _ _) ?_)
    | (refine Aw.wpList_load_g 24 rfl rfl 25 (.tmp 5) rfl rfl v1_ Try.underlying25 rfl (profC_info _ _ _) ?_))
  refine (same_true pn pl pm A1 A2 c1 c2 _ hlen (HC1_3.out _ (Below.refl _ _)) (HC2_1.out _ (Below.refl _ _))).mono ?_; rintro e w5 ⟨rfl, b1⟩
  have x0_ := v0_.kept b1 v0_.lt
  have x1_ := v1_.kept b1 v1_.lt
  have xb_ := vb_.trans (b1.mono (Nat.le_trans (Nat.le_of_eq HB.out.symm) vb_.size))
  have HC1_4 : Hid (∀  w', Below w5.heap.size w5 w' → Kd.C k72 w' A1 pl.length pl) := fun  w' h => HC1_3.out  w' (b1.trans (h.mono b1.size))
  clear HC1_3
  have HC2_2 : Hid (∀  w', Below w5.heap.size w5 w' → Kd.C k72 w' A2 pl.length pl) := fun  w' h => HC2_1.out  w' (b1.trans (h.mono b1.size))
  clear HC2_1
  clear v0_ v1_ vb_ b1
  go_wp2_with fail
  refine (awake_true _).mono ?_; rintro e w6 ⟨rfl, b1⟩
  have y0_ := x0_.kept b1 x0_.lt
  have y1_ := x1_.kept b1 x1_.lt
  have yb_ := xb_.trans (b1.mono (Nat.le_trans (Nat.le_of_eq HB.out.symm) xb_.size))
  have HC1_5 : Hid (∀  w', Below w6.heap.size w6 w' → Kd.C k72 w' A1 pl.length pl) := fun  w' h => HC1_4.out  w' (b1.trans (h.mono b1.size))
  clear HC1_4
  have HC2_3 : Hid (∀  w', Below w6.heap.size w6 w' → Kd.C k72 w' A2 pl.length pl) := fun  w' h => HC2_2.out  w' (b1.trans (h.mono b1.size))
  clear HC2_2
  clear x0_ x1_ xb_ b1
  by_cases hec : ec = 0
  · have hec2 : (ec != 0) = false := by simpa using hec
    obtain ⟨hbp, hpc⟩ := HOK.out hec
    have hbp2 : bp = s := hbp
    clear hbp
    subst hbp2
    subst hpc
    clear hec
    go_wp2_with (refine wpList_load_row rfl 25 (.tmp 3) rfl q1 rfl 25 (profC pn (.slice A1 pl.length c1) pm) (0, 0) _ y0_ Try.underlying25 rfl (profC_info _ _ _) ?_)
    refine (HBY.out A1 c1 _ (HC1_5.out _ (Below.refl _ _)) hc1).mono ?_; rintro e w7 ⟨rfl, b1⟩
    have z0_ := y0_.kept b1 y0_.lt
    have z1_ := y1_.kept b1 y1_.lt
    have zb_ := yb_.trans (b1.mono (Nat.le_trans (Nat.le_of_eq HB.out.symm) yb_.size))
    have HC1_6 : Hid (∀  w', Below w7.heap.size w7 w' → Kd.C k72 w' A1 pl.length pl) := fun  w' h => HC1_5.out  w' (b1.trans (h.mono b1.size))
    clear HC1_5
    have HC2_4 : Hid (∀  w', Below w7.heap.size w7 w' → Kd.C k72 w' A2 pl.length pl) := fun  w' h => HC2_3.out  w' (b1.trans (h.mono b1.size))
    clear HC2_3
    clear y0_ y1_ yb_ b1
    go_wp2
    go_ret
    exact ⟨rfl, by exact zb_⟩
  · have hec2 : (ec != 0) = true := by simpa using hec
    clear hec
    go_wp2
    go_ret
    exact ⟨rfl, by exact yb_⟩
end Go.Proofs.Ytlpfepcmpccbeaa.Lw
