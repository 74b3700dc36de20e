/-
  The law ProfileIdentity: its walk.
-/
import Derived.Test.YtlpfepcmpccbeaaZV
import Derived.Test.YtlpfepcmpccbeaaZLc4
import Derived.Test.YtlpfepcmpccbeaaZLi9
namespace Go.Proofs.Ytlpfepcmpccbeaa.Lw
open Go.RowKit Go.Proofs.Ytlpfepcmpccbeaa.NM Go.Proofs.Ytlpfepcmpccbeaa.Cv Go.Proofs.Ytlpfepcmpccbeaa.Wi Go.Proofs.Ytlpfepcmpccbeaa.Nm9 Go.Proofs.Ytlpfepcmpccbeaa.Mx Go.Proofs.Ytlpfepcmpccbeaa.Pf Go.Proofs.Ytlpfepcmpccbeaa.Pt Go.Proofs.Ytlpfepcmpccbeaa.Aw Go.Proofs.Ytlpfepcmpccbeaa.PNum Go.Proofs.YtlpfepcmpccbeaaW.PrintWords Go.Proofs.YtlpfepcmpccbeaaW.PrintMore Go.Proofs.YtlpfepcmpccbeaaW.PrintLast
attribute [local go_sem] eq9 eq3 eg9 eg3
attribute [local go_sem high] eqA35
set_option linter.unusedVariables false
theorem exec_neqX {o : Oper} {a : Act} {w : World} {x y : Operand} {p q r s p' q' r' s' : Int} (ho : o.op = .binOp .neq 35 x y 35) (hx : a.eval x = .agg #[.int .i64 p, .int .i64 q, .int .i64 r, .int .i64 s]) (hy : a.eval y = .agg #[.int .i64 p', .int .i64 q', .int .i64 r', .int .i64 s']) (h : p = p' ∧ q = q' ∧ r = r' ∧ s = s') : (execOp a.eval o).run Try.prog w = .ok (.value (.bool false)) w := by
  obtain ⟨rfl, rfl, rfl, rfl⟩ := h
  unfold execOp
  rw [ho]
  simp only [hx, hy]
  go_simp
theorem exec_neq3 {o : Oper} {a : Act} {w : World} {x y : Operand} {m p : Nat → Int} (ho : o.op = .binOp .neq 47 x y 47) (hx : a.eval x = .agg (arrN 3 m)) (hy : a.eval y = .agg (arrN 3 p)) (h : ∀ k, k < 3 → m k = p k) : (execOp a.eval o).run Try.prog w = .ok (.value (.bool false)) w := by
  rw [arrN_congr h] at hx
  unfold execOp
  rw [ho]
  simp only [hx, hy]
  go_simp
  rw [eqN_self]
theorem pair_ {P : Program} {ops : Array Oper} {Q : Exit → Act → World → Prop} {md : Region.Mode} {S : World → Prop} {ds : List Nat} {i j : Nat} {Ni Nj : Option Tmp} {oi oj : Oper} {fuel : Nat} {l : Array Bool} {a : Act} {w : World} (li lj : Array Bool) (hi : ops[i]? = some oi) (hj : ops[j]? = some oj) (hNi : oi.dst = Ni) (hNj : oj.dst = Nj)
    (hc : (Region.ready md ops l == [i, j] && l.setIfInBounds i true == li && l.setIfInBounds j true == lj) = true) (hdi : i ∉ ds) (hdj : j ∉ ds)
    (h1 : ∀ K : Act → World → Prop, Shut (∀ a' w', S w' → (S w' → wpAnyLast P md ops Q S ds fuel li a' w') → K a' w') → if Region.wanted oi (yielded ops a.tmps) = true then Oper.wp P oi a w K Q else K (a.put Ni undef) w)
    (h2 : ∀ K : Act → World → Prop, Shut (∀ a' w', S w' → (S w' → wpAnyLast P md ops Q S ds fuel lj a' w') → K a' w') → if Region.wanted oj (yielded ops a.tmps) = true then Oper.wp P oj a w K Q else K (a.put Nj undef) w) :
    wpAnyLast P md ops Q S ds (fuel + 1) l a w := by
  subst hNi
  subst hNj
  simp only [Bool.and_eq_true, beq_iff_eq] at hc
  obtain ⟨⟨h3, h4⟩, h5⟩ := hc
  subst h4
  subst h5
  exact wpAnyLast_ready h3 (by simp) (AllReadyL.cons hi hdi (fun K hK => h1 K hK) (AllReadyL.cons hj hdj (fun K hK => h2 K hK) AllReadyL.nil))
theorem stdN_small : (stdN 0).size ≤ 140737488355232 := by decide +kernel
theorem exec_allocX {o : Oper} {a : Act} {w : World} (ho : o.op = .alloc 35) : (execOp a.eval o).run Try.prog w = .ok (.value (.pointer (some ⟨w.heap.size, 0, none⟩))) (w.alloc (.cells #[.int .i64 0, .int .i64 0, .int .i64 0, .int .i64 0] 35)) := by
  unfold execOp
  rw [ho]
  go_simp
attribute [local irreducible] stdN stdM stdI pairsK linL warmL
set_option maxRecDepth 20000 in
set_option maxHeartbeats 8000000 in
theorem identity_true (r g b a : Int) (A : Option Addr) (c : Nat) (l : List Kn) (w : World) (hl : l.length ≤ 140737488355232) (hr : Kd.C k72 w A l.length l) (hc : l.length ≤ c) :
    Calls Try.prog 9 #[.agg (pixC r g b a), .slice A l.length c] w fun e w' => e = .returned (.bool true) ∧ Below w.heap.size w w' := by
  have HS0 := Lib.hid aw_std0
  have HL1 : Hid (∀ A1 c1 w', Kd.C k72 w' A1 linL.length linL → linL.length ≤ c1 → Calls Try.prog 26 #[.agg (profC (stdN 0) (.slice A1 linL.length c1) (stdM 0)), .agg (pixC r g b a)] w' fun e w'' => e = .returned (.agg (arrN 3 (linP (stdN 0) linL (stdM 0) r g b))) ∧ Below w'.heap.size w' w'') := fun A1 c1 w' h1 h2 => pLinear_any (stdN 0) A1 c1 linL (stdM 0) r g b a w' stdN_small h1 h2
  have HE1 : Hid (∀ A1 c1 w', Kd.C k72 w' A1 linL.length linL → linL.length ≤ c1 → Calls Try.prog 24 #[.agg (profC (stdN 0) (.slice A1 linL.length c1) (stdM 0)), .agg (arrN 3 (linP (stdN 0) linL (stdM 0) r g b)), .int .i64 a] w' fun e w'' => e = .returned (.tuple #[.agg (pixF (encP (stdN 0) linL (stdM 0) (linP (stdN 0) linL (stdM 0) r g b) a)), .int .i64 0]) ∧ Below w'.heap.size w' w'') := fun A1 c1 w' h1 h2 => by
    have h := pEncode_any (stdN 0) A1 c1 linL (stdM 0) (linP (stdN 0) linL (stdM 0) r g b) a w' stdN_small h1 h2
    rw [c_lin] at h
    exact h
  have HG1 : Hid (∀ w', Below w.heap.size w w' → Calls Try.prog 26 #[.agg (profC (stdN 0) (.slice A l.length c) (stdM 0)), .agg (pixC r r r 0)] w' fun e w'' => e = .returned (.agg (arrN 3 (linP (stdN 0) l (stdM 0) r r r))) ∧ Below w'.heap.size w' w'') := fun w' hb => pLinear_any (stdN 0) A c l (stdM 0) r r r 0 w' stdN_small (Kd.C_below hr hb) hc
  have HID : Hid ((0 ≤ r ∧ r ≤ 65535) ∧ (0 ≤ g ∧ g ≤ 65535) ∧ (0 ≤ b ∧ b ≤ 65535) ∧ (1 ≤ a ∧ a ≤ 65535) → (∀ i, i < 3 → (linP (stdN 0) linL (stdM 0) r g b) i = ([r, g, b] : List Int).getD i 0) ∧ encP (stdN 0) linL (stdM 0) (linP (stdN 0) linL (stdM 0) r g b) a 0 = r ∧ encP (stdN 0) linL (stdM 0) (linP (stdN 0) linL (stdM 0) r g b) a 1 = g ∧ encP (stdN 0) linL (stdM 0) (linP (stdN 0) linL (stdM 0) r g b) a 2 = b ∧ encP (stdN 0) linL (stdM 0) (linP (stdN 0) linL (stdM 0) r g b) a 3 = a) := fun h => ⟨fun i hi => lin_id h.1 h.2.1 h.2.2.1 i hi, enc_id h.1 h.2.1 h.2.2.1 h.2.2.2 0 (by omega), enc_id h.1 h.2.1 h.2.2.1 h.2.2.2 1 (by omega), enc_id h.1 h.2.1 h.2.2.1 h.2.2.2 2 (by omega), enc_id h.1 h.2.1 h.2.2.1 h.2.2.2 3 (by omega)⟩
  have HGR : Hid ((linP (stdN 0) l (stdM 0) r r r) 0 = (linP (stdN 0) l (stdM 0) r r r) 1 ∧ (linP (stdN 0) l (stdM 0) r r r) 1 = (linP (stdN 0) l (stdM 0) r r r) 2) := ⟨gray _ _ _ 0 1 (by omega) (by omega), gray _ _ _ 1 2 (by omega) (by omega)⟩
  generalize encP (stdN 0) linL (stdM 0) (linP (stdN 0) linL (stdM 0) r g b) a = ep at *
  generalize (linP (stdN 0) linL (stdM 0) r g b) = lp at *
  generalize (linP (stdN 0) l (stdM 0) r r r) = gp at *
  generalize stdN 0 = n0 at *
  generalize stdM 0 = m0 at *
  generalize linL = L0 at *
  go_enter Try.func9, Try.ntmps9
  go_upto_region 1 with fail
  have h0 : holdsC (w.alloc (.cells (pixC r g b a) 35)) w.heap.size 35 (pixC r g b a) := by
    have h : holdsC (w.alloc (.cells (pixC r g b a) 35)) w.heap.size 35 (pixC r g b a) := heap_alloc_new _ _
    have h := h
    exact h
  have hb : Below w.heap.size w (w.alloc (.cells (pixC r g b a) 35)) := ((Below.refl _ _).alloc (Nat.le_refl _) _)
  generalize (w.alloc (.cells (pixC r g b a) 35)) = wc at *
  generalize hB : w.heap.size = B at *
  have HB := Lib.hid hB
  clear hB
  go_wp2_with fail
  refine (HS0.out _).mono ?_; rintro e w1 ⟨A1, c1, rfl, hC1, hc1, b1⟩
  have g0_ := h0.kept b1 h0.lt
  have gb_ := hb.trans (b1.mono (Nat.le_trans (Nat.le_of_eq HB.out.symm) hb.size))
  clear h0 hb b1
  have HC1_0 : Hid (∀  w', Below w1.heap.size w1 w' → Kd.C k72 w' A1 L0.length L0) := fun w' h => Kd.C_below hC1 h
  clear hC1
  have H3 : holdsC (w1.alloc (.cells #[.string ⟨#[]⟩, .slice none 0 0, .int .i64 0, .int .i64 0, .int .i64 0, .int .i64 0, .int .i64 0, .int .i64 0, .int .i64 0, .int .i64 0, .int .i64 0] 25)) w1.heap.size 25 #[.string ⟨#[]⟩, .slice none 0 0, .int .i64 0, .int .i64 0, .int .i64 0, .int .i64 0, .int .i64 0, .int .i64 0, .int .i64 0, .int .i64 0, .int .i64 0] := heap_alloc_new _ _
  have k0_ := (g0_.alloc (.cells #[.string ⟨#[]⟩, .slice none 0 0, .int .i64 0, .int .i64 0, .int .i64 0, .int .i64 0, .int .i64 0, .int .i64 0, .int .i64 0, .int .i64 0, .int .i64 0] 25)).setRowOther (g' := w1.heap.size) (by have := g0_.lt; omega) (profC n0 (.slice A1 L0.length c1) m0)
  have nk0_ : B < w1.heap.size := g0_.lt
  have k1_ := holdsC_row H3 (profC n0 (.slice A1 L0.length c1) m0)
  have nq1 : B ≤ w1.heap.size := by rw [← HB.out]; exact gb_.size
  have kb_ := below_setRow (gb_.alloc nq1 (.cells #[.string ⟨#[]⟩, .slice none 0 0, .int .i64 0, .int .i64 0, .int .i64 0, .int .i64 0, .int .i64 0, .int .i64 0, .int .i64 0, .int .i64 0, .int .i64 0] 25)) nq1 (profC n0 (.slice A1 L0.length c1) m0)
  have bb := below_setRow ((Below.refl w1.heap.size w1).alloc (Nat.le_refl _) (.cells #[.string ⟨#[]⟩, .slice none 0 0, .int .i64 0, .int .i64 0, .int .i64 0, .int .i64 0, .int .i64 0, .int .i64 0, .int .i64 0, .int .i64 0, .int .i64 0] 25)) (Nat.le_refl _) (profC n0 (.slice A1 L0.length c1) m0)
  have HC1_1 : Hid (∀  w', Below ((w1.alloc (.cells #[.string ⟨#[]⟩, .slice none 0 0, .int .i64 0, .int .i64 0, .int .i64 0, .int .i64 0, .int .i64 0, .int .i64 0, .int .i64 0, .int .i64 0, .int .i64 0] 25)).setRow w1.heap.size (profC n0 (.slice A1 L0.length c1) m0)).heap.size ((w1.alloc (.cells #[.string ⟨#[]⟩, .slice none 0 0, .int .i64 0, .int .i64 0, .int .i64 0, .int .i64 0, .int .i64 0, .int .i64 0, .int .i64 0, .int .i64 0, .int .i64 0] 25)).setRow w1.heap.size (profC n0 (.slice A1 L0.length c1) m0)) w' → Kd.C k72 w' A1 L0.length L0) := fun  w' h => HC1_0.out  w' (bb.trans (h.mono bb.size))
  clear HC1_0
  clear bb
  go_upto_region 2 with (first | (refine wpList_store_row rfl 25 (.tmp 5) (.tmp 13) rfl _ (profC n0 (.slice A1 L0.length c1) m0) rfl rfl 25 _ H3 (profC_info _ _ _) (by rw [profC_size]; rfl) (profC_one _ _ _ rfl) ?_))
  clear H3 g0_ gb_
  generalize (w1.alloc (.cells #[.string ⟨#[]⟩, .slice none 0 0, .int .i64 0, .int .i64 0, .int .i64 0, .int .i64 0, .int .i64 0, .int .i64 0, .int .i64 0, .int .i64 0, .int .i64 0] 25)).setRow w1.heap.size (profC n0 (.slice A1 L0.length c1) m0) = w2 at *
  generalize w1.heap.size = q1 at *
  go_wp2_with fail
  refine (awake_true _).mono ?_; rintro e w3 ⟨rfl, b1⟩
  have u0_ := k0_.kept b1 k0_.lt
  have u1_ := k1_.kept b1 k1_.lt
  have ub_ := kb_.trans (b1.mono (Nat.le_trans (Nat.le_of_eq HB.out.symm) kb_.size))
  have HC1_2 : Hid (∀  w', Below w3.heap.size w3 w' → Kd.C k72 w' A1 L0.length L0) := fun  w' h => HC1_1.out  w' (b1.trans (h.mono b1.size))
  clear HC1_1
  clear k0_ k1_ kb_ b1
  have nBq : Hid (B ≠ q1) := by have := nk0_; show _ ≠ _; omega
  have nBl : Hid (B ≤ q1) := nq1
  go_upto_region 4 with fail
  have hX : holdsC w3 B 35 #[.int .i64 r, .int .i64 g, .int .i64 b, .int .i64 a] := u0_
  have x0 := hX.cell 0 (.int .i64 r) rfl
  have x1 := hX.cell 1 (.int .i64 g) rfl
  have x2 := hX.cell 2 (.int .i64 b) rfl
  have x3 := hX.cell 3 (.int .i64 a) rfl
  have HCC := Lib.hid (HC1_2.out w3 (Below.refl _ _))
  clear HC1_2
  go_cut [7] (fun v7 wc => ∃ q : Bool, v7 = .bool q ∧ Hid (q = true → (0 ≤ r ∧ r ≤ 65535) ∧ (0 ≤ g ∧ g ≤ 65535) ∧ (0 ≤ b ∧ b ≤ 65535) ∧ (1 ≤ a ∧ a ≤ 65535)) ∧ wc = w3)
  case first =>
    by_cases h0 : 0 ≤ r
    · have e0 : decide (0 ≤ r) = true := decide_eq_true h0
      by_cases h1 : r ≤ 65535
      · have e1 : decide (r ≤ 65535) = true := decide_eq_true h1
        by_cases h2 : 0 ≤ g
        · have e2 : decide (0 ≤ g) = true := decide_eq_true h2
          by_cases h3 : g ≤ 65535
          · have e3 : decide (g ≤ 65535) = true := decide_eq_true h3
            by_cases h4 : 0 ≤ b
            · have e4 : decide (0 ≤ b) = true := decide_eq_true h4
              by_cases h5 : b ≤ 65535
              · have e5 : decide (b ≤ 65535) = true := decide_eq_true h5
                by_cases h6 : 1 ≤ a
                · have e6 : decide (1 ≤ a) = true := decide_eq_true h6
                  by_cases h7 : a ≤ 65535
                  · have e7 : decide (a ≤ 65535) = true := decide_eq_true h7
                    go_wp2
                    go_meet
                    case rel => exact ⟨true, rfl, fun _ => ⟨⟨h0, h1⟩, ⟨h2, h3⟩, ⟨h4, h5⟩, ⟨h6, h7⟩⟩, rfl⟩
                  · have e7 : decide (a ≤ 65535) = false := decide_eq_false h7
                    go_wp2
                    go_meet
                    case rel => exact ⟨false, rfl, fun h => by simp at h, rfl⟩
                · have e6 : decide (1 ≤ a) = false := decide_eq_false h6
                  go_wp2
                  go_meet
                  case rel => exact ⟨false, rfl, fun h => by simp at h, rfl⟩
              · have e5 : decide (b ≤ 65535) = false := decide_eq_false h5
                go_wp2
                go_meet
                case rel => exact ⟨false, rfl, fun h => by simp at h, rfl⟩
            · have e4 : decide (0 ≤ b) = false := decide_eq_false h4
              go_wp2
              go_meet
              case rel => exact ⟨false, rfl, fun h => by simp at h, rfl⟩
          · have e3 : decide (g ≤ 65535) = false := decide_eq_false h3
            go_wp2
            go_meet
            case rel => exact ⟨false, rfl, fun h => by simp at h, rfl⟩
        · have e2 : decide (0 ≤ g) = false := decide_eq_false h2
          go_wp2
          go_meet
          case rel => exact ⟨false, rfl, fun h => by simp at h, rfl⟩
      · have e1 : decide (r ≤ 65535) = false := decide_eq_false h1
        go_wp2
        go_meet
        case rel => exact ⟨false, rfl, fun h => by simp at h, rfl⟩
    · have e0 : decide (0 ≤ r) = false := decide_eq_false h0
      go_wp2
      go_meet
      case rel => exact ⟨false, rfl, fun h => by simp at h, rfl⟩
  case rest =>
    obtain ⟨q, rfl, HQ, rfl⟩ := hcut
    clear x0 x1 x2 x3
    have hP : holdsC wc q1 25 (profC n0 (.slice A1 L0.length c1) m0) := u1_
    have hB5 : Below B w wc := ub_
    clear u1_ u0_ ub_
    go_upto_region 5 with fail
    go_cut [8, 9] (fun v8 v9 wd => ∃ G : Nat, v8 = .pointer (some ⟨G, 0, none⟩) ∧ v9 = .int .i64 0 ∧ G ≠ q1 ∧ holdsC wd G 35 #[.int .i64 (ep 0), .int .i64 (ep 1), .int .i64 (ep 2), .int .i64 (ep 3)] ∧ holdsC wd B 35 #[.int .i64 r, .int .i64 g, .int .i64 b, .int .i64 a] ∧ holdsC wd q1 25 (profC n0 (.slice A1 L0.length c1) m0) ∧ Hid (Kd.C k72 wd A1 L0.length L0) ∧ Below B w wd)
    case first =>
      skip
      refine start_ (n := 13) (S := fun w' => holdsC w' B 35 #[.int .i64 r, .int .i64 g, .int .i64 b, .int .i64 a] ∧ holdsC w' q1 25 (profC n0 (.slice A1 L0.length c1) m0)) (ds := [11]) #[false, false, false, false, false, false, false, false, false, false, false, false, false] (by kernel_rfl) rfl rfl ⟨hX, hP⟩ (fun hHeld => ?_)
      have hB6 := hB5.drew
      have HC5 := Kd.C_below HCC.out (Below.refl _ _).drew
      clear hX hP hB5 HCC
      generalize wc.drew = W0 at *
      obtain ⟨S0, hS0⟩ : ∃ S0, S0 = W0.heap.size := ⟨_, rfl⟩
      have HC6 : Hid (∀ W', Below S0 W0 W' → Kd.C k72 W' A1 L0.length L0) := fun W' h => Kd.C_below HC5 (by rw [← hS0]; exact h)
      have hW := Below.refl S0 W0
      have hS : S0 ≤ W0.heap.size := Nat.le_of_eq hS0
      clear hS0 HC5
      refine take_ (i := 0) (N := some 60) (v := .agg (profC n0 (.slice A1 L0.length c1) m0)) (a' := ?_) #[true, false, false, false, false, false, false, false, false, false, false, false, false] rfl rfl (by kernel_rfl) (fun _ _ _ h => h) (Or.inl ⟨by rfl, fun w' s => exec_loadC rfl rfl s.2 rfl Try.underlying25 (profC_info _ _ _)⟩) hHeld ?_ ?_
      rotate_left
      · simp only [Act.put, List.setIfInBounds_toArray, List.set_cons_zero, List.set_cons_succ]
        rfl
      refine take_ (i := 1) (N := some 61) (v := .agg (profC n0 (.slice A1 L0.length c1) m0)) (a' := ?_) #[true, true, false, false, false, false, false, false, false, false, false, false, false] rfl rfl (by kernel_rfl) (fun _ _ _ h => h) (Or.inl ⟨by rfl, fun w' s => exec_loadC rfl rfl s.2 rfl Try.underlying25 (profC_info _ _ _)⟩) hHeld ?_ ?_
      rotate_left
      · simp only [Act.put, List.setIfInBounds_toArray, List.set_cons_zero, List.set_cons_succ]
        rfl
      refine take_ (i := 2) (N := some 62) (v := .agg #[.int .i64 r, .int .i64 g, .int .i64 b, .int .i64 a]) (a' := ?_) #[true, true, true, false, false, false, false, false, false, false, false, false, false] rfl rfl (by kernel_rfl) (fun _ _ _ h => h) (Or.inl ⟨by rfl, fun w' s => exec_loadC rfl rfl s.1 rfl Try.underlying35 (by kernel_rfl)⟩) hHeld ?_ ?_
      rotate_left
      · simp only [Act.put, List.setIfInBounds_toArray, List.set_cons_zero, List.set_cons_succ]
        rfl
      refine pure_ (i := 4) (N := some 64) (v := ?_) (a' := ?_) #[true, true, true, false, true, false, false, false, false, false, false, false, false] rfl rfl (by kernel_rfl) (fun _ _ _ h => h) (Or.inl ⟨by rfl, ?_⟩) ?_ ?_
      rotate_left
      · intro w'
        go_simp
        with_reducible rfl
      rotate_left
      · simp only [Act.put, List.setIfInBounds_toArray, List.set_cons_zero, List.set_cons_succ]
        rfl
      refine take_ (i := 5) (N := some 65) (v := ?_) (a' := ?_) #[true, true, true, false, true, true, false, false, false, false, false, false, false] rfl rfl (by kernel_rfl) (fun _ _ _ h => h) (Or.inl ⟨by rfl, ?_⟩) hHeld ?_ ?_
      rotate_left
      · rintro w' ⟨s0, s1⟩
        have c1_ := s0.cell 3 (.int .i64 a) rfl
        go_simp
        with_reducible rfl
      rotate_left
      · simp only [Act.put, List.setIfInBounds_toArray, List.set_cons_zero, List.set_cons_succ]
        rfl
      have g0 := hHeld.1
      have g1 := hHeld.2
      clear hHeld
      refine pair_ (i := 3) (j := 10) (Ni := some 63) (Nj := some 8) #[true, true, true, true, true, true, false, false, false, false, false, false, false] #[true, true, true, false, true, true, false, false, false, false, true, false, false] rfl rfl rfl rfl (by kernel_rfl) (by decide) (by decide) (fun K hK => ?_) (fun K hK => ?_)
      · skip
        refine goes_ Try.func26 (by kernel_rfl) rfl #[.agg (profC n0 (.slice A1 L0.length c1) m0), .agg #[.int .i64 r, .int .i64 g, .int .i64 b, .int .i64 a]] (by rfl) rfl rfl (by simp only [List.map_toArray, List.map_cons, List.map_nil]; rfl) ?_
        refine (HL1.out A1 c1 W0 (HC6.out _ hW) hc1).mono ?_
        rintro e V1 ⟨rfl, b1⟩
        refine ⟨_, rfl, ?_⟩
        have g0 := g0.kept b1 g0.lt
        have g1 := g1.kept b1 g1.lt
        have hB6 := hB6.trans (b1.mono (Nat.le_trans (Nat.le_of_eq HB.out.symm) hB6.size))
        have hW := hW.trans (b1.mono hS)
        have hS := Nat.le_trans hS b1.size
        refine hK.out _ _ ⟨g0, g1⟩ (fun hHeld => ?_)
        clear hK K b1 hHeld
        refine norm_ (a' := ?_) ?_ ?_
        rotate_left
        · show Act.put _ (some 63) _ = _
          simp only [Act.put, List.setIfInBounds_toArray, List.set_cons_zero, List.set_cons_succ]
          rfl
        refine pair_ (i := 6) (j := 10) (Ni := some 66) (Nj := some 8) #[true, true, true, true, true, true, true, false, false, false, false, false, false] #[true, true, true, true, true, true, false, false, false, false, true, false, false] rfl rfl rfl rfl (by kernel_rfl) (by decide) (by decide) (fun K hK => ?_) (fun K hK => ?_)
        · skip
          refine goes_ Try.func24 (by kernel_rfl) rfl #[.agg (profC n0 (.slice A1 L0.length c1) m0), .agg (arrN 3 lp), .int .i64 a] (by rfl) rfl rfl (by simp only [List.map_toArray, List.map_cons, List.map_nil]; rfl) ?_
          refine (HE1.out A1 c1 V1 (HC6.out _ hW) hc1).mono ?_
          rintro e V2 ⟨rfl, b1⟩
          refine ⟨_, rfl, ?_⟩
          have g0 := g0.kept b1 g0.lt
          have g1 := g1.kept b1 g1.lt
          have hB6 := hB6.trans (b1.mono (Nat.le_trans (Nat.le_of_eq HB.out.symm) hB6.size))
          have hW := hW.trans (b1.mono hS)
          have hS := Nat.le_trans hS b1.size
          refine hK.out _ _ ⟨g0, g1⟩ (fun hHeld => ?_)
          clear hK K b1 hHeld
          refine norm_ (a' := ?_) ?_ ?_
          rotate_left
          · show Act.put _ (some 66) _ = _
            simp only [Act.put, List.setIfInBounds_toArray, List.set_cons_zero, List.set_cons_succ]
            rfl
          refine pure_ (i := 7) (N := some 59) (v := ?_) (a' := ?_) #[true, true, true, true, true, true, true, true, false, false, false, false, false] rfl rfl (by kernel_rfl) (fun _ _ _ h => h) (Or.inl ⟨by rfl, ?_⟩) ?_ ?_
          rotate_left
          · intro w'
            go_simp
            with_reducible rfl
          rotate_left
          · simp only [Act.put, List.setIfInBounds_toArray, List.set_cons_zero, List.set_cons_succ]
            rfl
          refine pure_ (i := 8) (N := some 67) (v := ?_) (a' := ?_) #[true, true, true, true, true, true, true, true, true, false, false, false, false] rfl rfl (by kernel_rfl) (fun _ _ _ h => h) (Or.inl ⟨by rfl, ?_⟩) ?_ ?_
          rotate_left
          · intro w'
            go_simp
            with_reducible rfl
          rotate_left
          · simp only [Act.put, List.setIfInBounds_toArray, List.set_cons_zero, List.set_cons_succ]
            rfl
          refine pure_ (i := 9) (N := some 68) (v := ?_) (a' := ?_) #[true, true, true, true, true, true, true, true, true, true, false, false, false] rfl rfl (by kernel_rfl) (fun _ _ _ h => h) (Or.inl ⟨by rfl, ?_⟩) ?_ ?_
          rotate_left
          · intro w'
            go_simp
            with_reducible rfl
          rotate_left
          · simp only [Act.put, List.setIfInBounds_toArray, List.set_cons_zero, List.set_cons_succ]
            rfl
          refine one_ (i := 10) (N := some 8) #[true, true, true, true, true, true, true, true, true, true, true, false, false] rfl rfl (by kernel_rfl) (by decide) (fun K hK => ?_)
          refine value_ (by rfl) rfl (exec_allocX rfl) ?_
          have gG : holdsC (V2.alloc (.cells #[.int .i64 0, .int .i64 0, .int .i64 0, .int .i64 0] 35)) V2.heap.size 35 #[.int .i64 0, .int .i64 0, .int .i64 0, .int .i64 0] := heap_alloc_new _ _
          have lq := g1.lt
          have lB := g0.lt
          have g0 := g0.alloc (.cells #[.int .i64 0, .int .i64 0, .int .i64 0, .int .i64 0] 35)
          have g1 := g1.alloc (.cells #[.int .i64 0, .int .i64 0, .int .i64 0, .int .i64 0] 35)
          have hBW : B ≤ V2.heap.size := Nat.le_of_lt lB
          have hB6 := hB6.alloc hBW (.cells #[.int .i64 0, .int .i64 0, .int .i64 0, .int .i64 0] 35)
          have hW := hW.alloc hS (.cells #[.int .i64 0, .int .i64 0, .int .i64 0, .int .i64 0] 35)
          have hSG : S0 ≤ V2.heap.size := hS
          clear hS
          have hS : S0 ≤ (V2.alloc (.cells #[.int .i64 0, .int .i64 0, .int .i64 0, .int .i64 0] 35)).heap.size := by simp; omega
          refine hK.out _ _ ⟨g0, g1⟩ (fun hHeld => ?_)
          clear hK K hHeld
          refine norm_ (a' := ?_) ?_ ?_
          rotate_left
          · show Act.put _ (some 8) _ = _
            simp only [Act.put, List.setIfInBounds_toArray, List.set_cons_zero, List.set_cons_succ]
            rfl
          generalize V2.alloc (.cells #[.int .i64 0, .int .i64 0, .int .i64 0, .int .i64 0] 35) = V3 at *
          generalize V2.heap.size = G at *
          refine last_ (i := 11) (N := none) #[true, true, true, true, true, true, true, true, true, true, true, true, false] rfl rfl (by kernel_rfl) (by decide) (fun K hK => ?_)
          have gE := holdsC_row gG #[.int .i64 (ep 0), .int .i64 (ep 1), .int .i64 (ep 2), .int .i64 (ep 3)]
          have g0 := g0.setRowOther (g' := G) (by omega) #[.int .i64 (ep 0), .int .i64 (ep 1), .int .i64 (ep 2), .int .i64 (ep 3)]
          have g1 := g1.setRowOther (g' := G) (by omega) #[.int .i64 (ep 0), .int .i64 (ep 1), .int .i64 (ep 2), .int .i64 (ep 3)]
          have hB6 := below_setRow hB6 hBW #[.int .i64 (ep 0), .int .i64 (ep 1), .int .i64 (ep 2), .int .i64 (ep 3)]
          have HC7 := Lib.hid (HC6.out _ (below_setRow hW hSG #[.int .i64 (ep 0), .int .i64 (ep 1), .int .i64 (ep 2), .int .i64 (ep 3)]))
          refine skip_ (by rfl) rfl (exec_storeC (c := #[.int .i64 (ep 0), .int .i64 (ep 1), .int .i64 (ep 2), .int .i64 (ep 3)]) rfl rfl rfl gG (by kernel_rfl) rfl (by kernel_rfl)) ?_
          refine hK.out _ _ ?_
          clear hK K
          refine pure_ (i := 12) (N := some 9) (v := ?_) (a' := ?_) #[true, true, true, true, true, true, true, true, true, true, true, true, true] rfl rfl (by kernel_rfl) (fun _ _ _ h => h) (Or.inl ⟨by rfl, ?_⟩) ?_ ?_
          rotate_left
          · intro w'
            go_simp
            with_reducible rfl
          rotate_left
          · simp only [Act.put, List.setIfInBounds_toArray, List.set_cons_zero, List.set_cons_succ]
            rfl
          refine done_ (by kernel_rfl) ?_
          go_wp2
          go_meet
          case rel => exact ⟨G, rfl, rfl, by omega, gE, g0, g1, HC7, hB6⟩
        · skip
          refine value_ (by rfl) rfl (exec_allocX rfl) ?_
          have gG : holdsC (V1.alloc (.cells #[.int .i64 0, .int .i64 0, .int .i64 0, .int .i64 0] 35)) V1.heap.size 35 #[.int .i64 0, .int .i64 0, .int .i64 0, .int .i64 0] := heap_alloc_new _ _
          have lq := g1.lt
          have lB := g0.lt
          have g0 := g0.alloc (.cells #[.int .i64 0, .int .i64 0, .int .i64 0, .int .i64 0] 35)
          have g1 := g1.alloc (.cells #[.int .i64 0, .int .i64 0, .int .i64 0, .int .i64 0] 35)
          have hBW : B ≤ V1.heap.size := Nat.le_of_lt lB
          have hB6 := hB6.alloc hBW (.cells #[.int .i64 0, .int .i64 0, .int .i64 0, .int .i64 0] 35)
          have hW := hW.alloc hS (.cells #[.int .i64 0, .int .i64 0, .int .i64 0, .int .i64 0] 35)
          have hSG : S0 ≤ V1.heap.size := hS
          clear hS
          have hS : S0 ≤ (V1.alloc (.cells #[.int .i64 0, .int .i64 0, .int .i64 0, .int .i64 0] 35)).heap.size := by simp; omega
          refine hK.out _ _ ⟨g0, g1⟩ (fun hHeld => ?_)
          clear hK K hHeld
          refine norm_ (a' := ?_) ?_ ?_
          rotate_left
          · show Act.put _ (some 8) _ = _
            simp only [Act.put, List.setIfInBounds_toArray, List.set_cons_zero, List.set_cons_succ]
            rfl
          generalize V1.alloc (.cells #[.int .i64 0, .int .i64 0, .int .i64 0, .int .i64 0] 35) = V4 at *
          generalize V1.heap.size = G at *
          refine one_ (i := 6) (N := some 66) #[true, true, true, true, true, true, true, false, false, false, true, false, false] rfl rfl (by kernel_rfl) (by decide) (fun K hK => ?_)
          refine goes_ Try.func24 (by kernel_rfl) rfl #[.agg (profC n0 (.slice A1 L0.length c1) m0), .agg (arrN 3 lp), .int .i64 a] (by rfl) rfl rfl (by simp only [List.map_toArray, List.map_cons, List.map_nil]; rfl) ?_
          refine (HE1.out A1 c1 V4 (HC6.out _ hW) hc1).mono ?_
          rintro e V5 ⟨rfl, b1⟩
          refine ⟨_, rfl, ?_⟩
          have g0 := g0.kept b1 g0.lt
          have g1 := g1.kept b1 g1.lt
          have gG := gG.kept b1 gG.lt
          have hB6 := hB6.trans (b1.mono (Nat.le_trans (Nat.le_of_eq HB.out.symm) hB6.size))
          have hW := hW.trans (b1.mono hS)
          have hS := Nat.le_trans hS b1.size
          refine hK.out _ _ ⟨g0, g1⟩ (fun hHeld => ?_)
          clear hK K b1 hHeld
          refine norm_ (a' := ?_) ?_ ?_
          rotate_left
          · show Act.put _ (some 66) _ = _
            simp only [Act.put, List.setIfInBounds_toArray, List.set_cons_zero, List.set_cons_succ]
            rfl
          refine pure_ (i := 7) (N := some 59) (v := ?_) (a' := ?_) #[true, true, true, true, true, true, true, true, false, false, true, false, false] rfl rfl (by kernel_rfl) (fun _ _ _ h => h) (Or.inl ⟨by rfl, ?_⟩) ?_ ?_
          rotate_left
          · intro w'
            go_simp
            with_reducible rfl
          rotate_left
          · simp only [Act.put, List.setIfInBounds_toArray, List.set_cons_zero, List.set_cons_succ]
            rfl
          refine pure_ (i := 8) (N := some 67) (v := ?_) (a' := ?_) #[true, true, true, true, true, true, true, true, true, false, true, false, false] rfl rfl (by kernel_rfl) (fun _ _ _ h => h) (Or.inl ⟨by rfl, ?_⟩) ?_ ?_
          rotate_left
          · intro w'
            go_simp
            with_reducible rfl
          rotate_left
          · simp only [Act.put, List.setIfInBounds_toArray, List.set_cons_zero, List.set_cons_succ]
            rfl
          refine pure_ (i := 9) (N := some 68) (v := ?_) (a' := ?_) #[true, true, true, true, true, true, true, true, true, true, true, false, false] rfl rfl (by kernel_rfl) (fun _ _ _ h => h) (Or.inl ⟨by rfl, ?_⟩) ?_ ?_
          rotate_left
          · intro w'
            go_simp
            with_reducible rfl
          rotate_left
          · simp only [Act.put, List.setIfInBounds_toArray, List.set_cons_zero, List.set_cons_succ]
            rfl
          refine last_ (i := 11) (N := none) #[true, true, true, true, true, true, true, true, true, true, true, true, false] rfl rfl (by kernel_rfl) (by decide) (fun K hK => ?_)
          have gE := holdsC_row gG #[.int .i64 (ep 0), .int .i64 (ep 1), .int .i64 (ep 2), .int .i64 (ep 3)]
          have g0 := g0.setRowOther (g' := G) (by omega) #[.int .i64 (ep 0), .int .i64 (ep 1), .int .i64 (ep 2), .int .i64 (ep 3)]
          have g1 := g1.setRowOther (g' := G) (by omega) #[.int .i64 (ep 0), .int .i64 (ep 1), .int .i64 (ep 2), .int .i64 (ep 3)]
          have hB6 := below_setRow hB6 hBW #[.int .i64 (ep 0), .int .i64 (ep 1), .int .i64 (ep 2), .int .i64 (ep 3)]
          have HC7 := Lib.hid (HC6.out _ (below_setRow hW hSG #[.int .i64 (ep 0), .int .i64 (ep 1), .int .i64 (ep 2), .int .i64 (ep 3)]))
          refine skip_ (by rfl) rfl (exec_storeC (c := #[.int .i64 (ep 0), .int .i64 (ep 1), .int .i64 (ep 2), .int .i64 (ep 3)]) rfl rfl rfl gG (by kernel_rfl) rfl (by kernel_rfl)) ?_
          refine hK.out _ _ ?_
          clear hK K
          refine pure_ (i := 12) (N := some 9) (v := ?_) (a' := ?_) #[true, true, true, true, true, true, true, true, true, true, true, true, true] rfl rfl (by kernel_rfl) (fun _ _ _ h => h) (Or.inl ⟨by rfl, ?_⟩) ?_ ?_
          rotate_left
          · intro w'
            go_simp
            with_reducible rfl
          rotate_left
          · simp only [Act.put, List.setIfInBounds_toArray, List.set_cons_zero, List.set_cons_succ]
            rfl
          refine done_ (by kernel_rfl) ?_
          go_wp2
          go_meet
          case rel => exact ⟨G, rfl, rfl, by omega, gE, g0, g1, HC7, hB6⟩
      · skip
        refine value_ (by rfl) rfl (exec_allocX rfl) ?_
        have gG : holdsC (W0.alloc (.cells #[.int .i64 0, .int .i64 0, .int .i64 0, .int .i64 0] 35)) W0.heap.size 35 #[.int .i64 0, .int .i64 0, .int .i64 0, .int .i64 0] := heap_alloc_new _ _
        have lq := g1.lt
        have lB := g0.lt
        have g0 := g0.alloc (.cells #[.int .i64 0, .int .i64 0, .int .i64 0, .int .i64 0] 35)
        have g1 := g1.alloc (.cells #[.int .i64 0, .int .i64 0, .int .i64 0, .int .i64 0] 35)
        have hBW : B ≤ W0.heap.size := Nat.le_of_lt lB
        have hB6 := hB6.alloc hBW (.cells #[.int .i64 0, .int .i64 0, .int .i64 0, .int .i64 0] 35)
        have hW := hW.alloc hS (.cells #[.int .i64 0, .int .i64 0, .int .i64 0, .int .i64 0] 35)
        have hSG : S0 ≤ W0.heap.size := hS
        clear hS
        have hS : S0 ≤ (W0.alloc (.cells #[.int .i64 0, .int .i64 0, .int .i64 0, .int .i64 0] 35)).heap.size := by simp; omega
        refine hK.out _ _ ⟨g0, g1⟩ (fun hHeld => ?_)
        clear hK K hHeld
        refine norm_ (a' := ?_) ?_ ?_
        rotate_left
        · show Act.put _ (some 8) _ = _
          simp only [Act.put, List.setIfInBounds_toArray, List.set_cons_zero, List.set_cons_succ]
          rfl
        generalize W0.alloc (.cells #[.int .i64 0, .int .i64 0, .int .i64 0, .int .i64 0] 35) = V6 at *
        generalize W0.heap.size = G at *
        refine one_ (i := 3) (N := some 63) #[true, true, true, true, true, true, false, false, false, false, true, false, false] rfl rfl (by kernel_rfl) (by decide) (fun K hK => ?_)
        refine goes_ Try.func26 (by kernel_rfl) rfl #[.agg (profC n0 (.slice A1 L0.length c1) m0), .agg #[.int .i64 r, .int .i64 g, .int .i64 b, .int .i64 a]] (by rfl) rfl rfl (by simp only [List.map_toArray, List.map_cons, List.map_nil]; rfl) ?_
        refine (HL1.out A1 c1 V6 (HC6.out _ hW) hc1).mono ?_
        rintro e V7 ⟨rfl, b1⟩
        refine ⟨_, rfl, ?_⟩
        have g0 := g0.kept b1 g0.lt
        have g1 := g1.kept b1 g1.lt
        have gG := gG.kept b1 gG.lt
        have hB6 := hB6.trans (b1.mono (Nat.le_trans (Nat.le_of_eq HB.out.symm) hB6.size))
        have hW := hW.trans (b1.mono hS)
        have hS := Nat.le_trans hS b1.size
        refine hK.out _ _ ⟨g0, g1⟩ (fun hHeld => ?_)
        clear hK K b1 hHeld
        refine norm_ (a' := ?_) ?_ ?_
        rotate_left
        · show Act.put _ (some 63) _ = _
          simp only [Act.put, List.setIfInBounds_toArray, List.set_cons_zero, List.set_cons_succ]
          rfl
        refine one_ (i := 6) (N := some 66) #[true, true, true, true, true, true, true, false, false, false, true, false, false] rfl rfl (by kernel_rfl) (by decide) (fun K hK => ?_)
        refine goes_ Try.func24 (by kernel_rfl) rfl #[.agg (profC n0 (.slice A1 L0.length c1) m0), .agg (arrN 3 lp), .int .i64 a] (by rfl) rfl rfl (by simp only [List.map_toArray, List.map_cons, List.map_nil]; rfl) ?_
        refine (HE1.out A1 c1 V7 (HC6.out _ hW) hc1).mono ?_
        rintro e V8 ⟨rfl, b1⟩
        refine ⟨_, rfl, ?_⟩
        have g0 := g0.kept b1 g0.lt
        have g1 := g1.kept b1 g1.lt
        have gG := gG.kept b1 gG.lt
        have hB6 := hB6.trans (b1.mono (Nat.le_trans (Nat.le_of_eq HB.out.symm) hB6.size))
        have hW := hW.trans (b1.mono hS)
        have hS := Nat.le_trans hS b1.size
        refine hK.out _ _ ⟨g0, g1⟩ (fun hHeld => ?_)
        clear hK K b1 hHeld
        refine norm_ (a' := ?_) ?_ ?_
        rotate_left
        · show Act.put _ (some 66) _ = _
          simp only [Act.put, List.setIfInBounds_toArray, List.set_cons_zero, List.set_cons_succ]
          rfl
        refine pure_ (i := 7) (N := some 59) (v := ?_) (a' := ?_) #[true, true, true, true, true, true, true, true, false, false, true, false, false] rfl rfl (by kernel_rfl) (fun _ _ _ h => h) (Or.inl ⟨by rfl, ?_⟩) ?_ ?_
        rotate_left
        · intro w'
          go_simp
          with_reducible rfl
        rotate_left
        · simp only [Act.put, List.setIfInBounds_toArray, List.set_cons_zero, List.set_cons_succ]
          rfl
        refine pure_ (i := 8) (N := some 67) (v := ?_) (a' := ?_) #[true, true, true, true, true, true, true, true, true, false, true, false, false] rfl rfl (by kernel_rfl) (fun _ _ _ h => h) (Or.inl ⟨by rfl, ?_⟩) ?_ ?_
        rotate_left
        · intro w'
          go_simp
          with_reducible rfl
        rotate_left
        · simp only [Act.put, List.setIfInBounds_toArray, List.set_cons_zero, List.set_cons_succ]
          rfl
        refine pure_ (i := 9) (N := some 68) (v := ?_) (a' := ?_) #[true, true, true, true, true, true, true, true, true, true, true, false, false] rfl rfl (by kernel_rfl) (fun _ _ _ h => h) (Or.inl ⟨by rfl, ?_⟩) ?_ ?_
        rotate_left
        · intro w'
          go_simp
          with_reducible rfl
        rotate_left
        · simp only [Act.put, List.setIfInBounds_toArray, List.set_cons_zero, List.set_cons_succ]
          rfl
        refine last_ (i := 11) (N := none) #[true, true, true, true, true, true, true, true, true, true, true, true, false] rfl rfl (by kernel_rfl) (by decide) (fun K hK => ?_)
        have gE := holdsC_row gG #[.int .i64 (ep 0), .int .i64 (ep 1), .int .i64 (ep 2), .int .i64 (ep 3)]
        have g0 := g0.setRowOther (g' := G) (by omega) #[.int .i64 (ep 0), .int .i64 (ep 1), .int .i64 (ep 2), .int .i64 (ep 3)]
        have g1 := g1.setRowOther (g' := G) (by omega) #[.int .i64 (ep 0), .int .i64 (ep 1), .int .i64 (ep 2), .int .i64 (ep 3)]
        have hB6 := below_setRow hB6 hBW #[.int .i64 (ep 0), .int .i64 (ep 1), .int .i64 (ep 2), .int .i64 (ep 3)]
        have HC7 := Lib.hid (HC6.out _ (below_setRow hW hSG #[.int .i64 (ep 0), .int .i64 (ep 1), .int .i64 (ep 2), .int .i64 (ep 3)]))
        refine skip_ (by rfl) rfl (exec_storeC (c := #[.int .i64 (ep 0), .int .i64 (ep 1), .int .i64 (ep 2), .int .i64 (ep 3)]) rfl rfl rfl gG (by kernel_rfl) rfl (by kernel_rfl)) ?_
        refine hK.out _ _ ?_
        clear hK K
        refine pure_ (i := 12) (N := some 9) (v := ?_) (a' := ?_) #[true, true, true, true, true, true, true, true, true, true, true, true, true] rfl rfl (by kernel_rfl) (fun _ _ _ h => h) (Or.inl ⟨by rfl, ?_⟩) ?_ ?_
        rotate_left
        · intro w'
          go_simp
          with_reducible rfl
        rotate_left
        · simp only [Act.put, List.setIfInBounds_toArray, List.set_cons_zero, List.set_cons_succ]
          rfl
        refine done_ (by kernel_rfl) ?_
        go_wp2
        go_meet
        case rel => exact ⟨G, rfl, rfl, by omega, gE, g0, g1, HC7, hB6⟩
    case rest =>
      obtain ⟨G, rfl, rfl, hGq, hE, hX, hP, HCC, hB5⟩ := hcut
      go_upto_region 6 with fail
      go_cut [91] (fun v91 we => v91 = .bool false ∧ holdsC we B 35 #[.int .i64 r, .int .i64 g, .int .i64 b, .int .i64 a] ∧ holdsC we q1 25 (profC n0 (.slice A1 L0.length c1) m0) ∧ Hid (Kd.C k72 we A1 L0.length L0) ∧ Below B w we)
      case first =>
        cases q
        · go_wp2
          go_quiet (fail)
          go_wp2
          go_meet
          case rel => exact ⟨rfl, hX, hP, Lib.hid (Kd.C_below HCC.out (below_drewN (Below.refl _ _) nq)), below_drewN hB5 nq⟩
        · obtain ⟨hlp, e0, e1, e2, e3⟩ := HID.out (HQ.out rfl)
          have HK := Lib.hid hB5
          have HD_0 : Hid (∀  w', Below wc.heap.size wc w' → Kd.C k72 w' A1 L0.length L0) := fun w' h => Kd.C_below HCC.out h
          refine start_ (n := 23) (S := fun w' => holdsC w' B 35 #[.int .i64 r, .int .i64 g, .int .i64 b, .int .i64 a] ∧ holdsC w' q1 25 (profC n0 (.slice A1 L0.length c1) m0) ∧ holdsC w' G 35 #[.int .i64 (ep 0), .int .i64 (ep 1), .int .i64 (ep 2), .int .i64 (ep 3)]) (ds := []) #[false, false, false, false, false, false, false, false, false, false, false, false, false, false, false, false, false, false, false, false, false, false, false] (by kernel_rfl) rfl rfl ⟨hX, hP, hE⟩ (fun hHeld => ?_)
          have HK := Lib.hid HK.out.drew
          have HD_1 : Hid (∀  w', Below wc.drew.heap.size wc.drew w' → Kd.C k72 w' A1 L0.length L0) := fun  w' h => HD_0.out  w' ((Below.refl _ _).drew.trans h)
          clear HD_0
          refine pure_ (i := 0) (N := some 69) (v := ?_) (a' := ?_) #[true, false, false, false, false, false, false, false, false, false, false, false, false, false, false, false, false, false, false, false, false, false, false] rfl rfl (by kernel_rfl) (fun _ _ _ h => h) (Or.inl ⟨by rfl, ?_⟩) ?_ ?_
          rotate_left
          · intro w'
            go_simp
            with_reducible rfl
          rotate_left
          · simp only [Act.put, List.setIfInBounds_toArray, List.set_cons_zero, List.set_cons_succ]
            rfl
          refine pure_ (i := 1) (N := some 70) (v := ?_) (a' := ?_) #[true, true, false, false, false, false, false, false, false, false, false, false, false, false, false, false, false, false, false, false, false, false, false] rfl rfl (by kernel_rfl) (fun _ _ _ h => h) (Or.inl ⟨by rfl, ?_⟩) ?_ ?_
          rotate_left
          · intro w'
            go_simp
            with_reducible rfl
          rotate_left
          · simp only [Act.put, List.setIfInBounds_toArray, List.set_cons_zero, List.set_cons_succ]
            rfl
          refine pure_ (i := 2) (N := some 71) (v := ?_) (a' := ?_) #[true, true, true, false, false, false, false, false, false, false, false, false, false, false, false, false, false, false, false, false, false, false, false] rfl rfl (by kernel_rfl) (fun _ _ _ h => h) (Or.inl ⟨by rfl, ?_⟩) ?_ ?_
          rotate_left
          · intro w'
            go_simp
            with_reducible rfl
          rotate_left
          · simp only [Act.put, List.setIfInBounds_toArray, List.set_cons_zero, List.set_cons_succ]
            rfl
          refine pure_ (i := 3) (N := some 72) (v := ?_) (a' := ?_) #[true, true, true, true, false, false, false, false, false, false, false, false, false, false, false, false, false, false, false, false, false, false, false] rfl rfl (by kernel_rfl) (fun _ _ _ h => h) (Or.inl ⟨by rfl, ?_⟩) ?_ ?_
          rotate_left
          · intro w'
            go_simp
            with_reducible rfl
          rotate_left
          · simp only [Act.put, List.setIfInBounds_toArray, List.set_cons_zero, List.set_cons_succ]
            rfl
          refine pure_ (i := 4) (N := some 73) (v := ?_) (a' := ?_) #[true, true, true, true, true, false, false, false, false, false, false, false, false, false, false, false, false, false, false, false, false, false, false] rfl rfl (by kernel_rfl) (fun _ _ _ h => h) (Or.inl ⟨by rfl, ?_⟩) ?_ ?_
          rotate_left
          · intro w'
            go_simp
            with_reducible rfl
          rotate_left
          · simp only [Act.put, List.setIfInBounds_toArray, List.set_cons_zero, List.set_cons_succ]
            rfl
          refine take_ (i := 5) (N := some 74) (v := .agg #[.int .i64 (ep 0), .int .i64 (ep 1), .int .i64 (ep 2), .int .i64 (ep 3)]) (a' := ?_) #[true, true, true, true, true, true, false, false, false, false, false, false, false, false, false, false, false, false, false, false, false, false, false] rfl rfl (by kernel_rfl) (fun _ _ _ h => h) (Or.inl ⟨by rfl, fun w' s => exec_loadC rfl rfl s.2.2 rfl Try.underlying35 (by kernel_rfl)⟩) hHeld ?_ ?_
          rotate_left
          · simp only [Act.put, List.setIfInBounds_toArray, List.set_cons_zero, List.set_cons_succ]
            rfl
          refine take_ (i := 6) (N := some 75) (v := .agg #[.int .i64 r, .int .i64 g, .int .i64 b, .int .i64 a]) (a' := ?_) #[true, true, true, true, true, true, true, false, false, false, false, false, false, false, false, false, false, false, false, false, false, false, false] rfl rfl (by kernel_rfl) (fun _ _ _ h => h) (Or.inl ⟨by rfl, fun w' s => exec_loadC rfl rfl s.1 rfl Try.underlying35 (by kernel_rfl)⟩) hHeld ?_ ?_
          rotate_left
          · simp only [Act.put, List.setIfInBounds_toArray, List.set_cons_zero, List.set_cons_succ]
            rfl
          refine pure_ (i := 7) (N := some 76) (v := .bool false) (a' := ?_) #[true, true, true, true, true, true, true, true, false, false, false, false, false, false, false, false, false, false, false, false, false, false, false] rfl rfl (by kernel_rfl) (fun _ _ _ h => h) (Or.inl ⟨by rfl, fun w' => exec_neqX rfl rfl rfl ⟨e0, e1, e2, e3⟩⟩) ?_ ?_
          rotate_left
          · simp only [Act.put, List.setIfInBounds_toArray, List.set_cons_zero, List.set_cons_succ]
            rfl
          refine pure_ (i := 8) (N := some 77) (v := ?_) (a' := ?_) #[true, true, true, true, true, true, true, true, true, false, false, false, false, false, false, false, false, false, false, false, false, false, false] rfl rfl (by kernel_rfl) (fun _ _ _ h => h) (Or.inl ⟨by rfl, ?_⟩) ?_ ?_
          rotate_left
          · intro w'
            go_simp
            with_reducible rfl
          rotate_left
          · simp only [Act.put, List.setIfInBounds_toArray, List.set_cons_zero, List.set_cons_succ]
            rfl
          refine take_ (i := 9) (N := some 78) (v := .agg (profC n0 (.slice A1 L0.length c1) m0)) (a' := ?_) #[true, true, true, true, true, true, true, true, true, true, false, false, false, false, false, false, false, false, false, false, false, false, false] rfl rfl (by kernel_rfl) (fun _ _ _ h => h) (Or.inl ⟨by rfl, fun w' s => exec_loadC rfl rfl s.2.1 rfl Try.underlying25 (profC_info _ _ _)⟩) hHeld ?_ ?_
          rotate_left
          · simp only [Act.put, List.setIfInBounds_toArray, List.set_cons_zero, List.set_cons_succ]
            rfl
          refine take_ (i := 10) (N := some 79) (v := .agg #[.int .i64 r, .int .i64 g, .int .i64 b, .int .i64 a]) (a' := ?_) #[true, true, true, true, true, true, true, true, true, true, true, false, false, false, false, false, false, false, false, false, false, false, false] rfl rfl (by kernel_rfl) (fun _ _ _ h => h) (Or.inl ⟨by rfl, fun w' s => exec_loadC rfl rfl s.1 rfl Try.underlying35 (by kernel_rfl)⟩) hHeld ?_ ?_
          rotate_left
          · simp only [Act.put, List.setIfInBounds_toArray, List.set_cons_zero, List.set_cons_succ]
            rfl
          refine pure_ (i := 12) (N := some 81) (v := ?_) (a' := ?_) #[true, true, true, true, true, true, true, true, true, true, true, false, true, false, false, false, false, false, false, false, false, false, false] rfl rfl (by kernel_rfl) (fun _ _ _ h => h) (Or.inl ⟨by rfl, ?_⟩) ?_ ?_
          rotate_left
          · intro w'
            go_simp
            with_reducible rfl
          rotate_left
          · simp only [Act.put, List.setIfInBounds_toArray, List.set_cons_zero, List.set_cons_succ]
            rfl
          refine take_ (i := 13) (N := some 82) (v := ?_) (a' := ?_) #[true, true, true, true, true, true, true, true, true, true, true, false, true, true, false, false, false, false, false, false, false, false, false] rfl rfl (by kernel_rfl) (fun _ _ _ h => h) (Or.inl ⟨by rfl, ?_⟩) hHeld ?_ ?_
          rotate_left
          · rintro w' ⟨s0, s1, s2⟩
            have c1_ := s0.cell 0 (.int .i64 r) rfl
            go_simp
            with_reducible rfl
          rotate_left
          · simp only [Act.put, List.setIfInBounds_toArray, List.set_cons_zero, List.set_cons_succ]
            rfl
          refine pure_ (i := 14) (N := some 83) (v := ?_) (a' := ?_) #[true, true, true, true, true, true, true, true, true, true, true, false, true, true, true, false, false, false, false, false, false, false, false] rfl rfl (by kernel_rfl) (fun _ _ _ h => h) (Or.inl ⟨by rfl, ?_⟩) ?_ ?_
          rotate_left
          · intro w'
            go_simp
            with_reducible rfl
          rotate_left
          · simp only [Act.put, List.setIfInBounds_toArray, List.set_cons_zero, List.set_cons_succ]
            rfl
          refine take_ (i := 15) (N := some 84) (v := ?_) (a' := ?_) #[true, true, true, true, true, true, true, true, true, true, true, false, true, true, true, true, false, false, false, false, false, false, false] rfl rfl (by kernel_rfl) (fun _ _ _ h => h) (Or.inl ⟨by rfl, ?_⟩) hHeld ?_ ?_
          rotate_left
          · rintro w' ⟨s0, s1, s2⟩
            have c1_ := s0.cell 1 (.int .i64 g) rfl
            go_simp
            with_reducible rfl
          rotate_left
          · simp only [Act.put, List.setIfInBounds_toArray, List.set_cons_zero, List.set_cons_succ]
            rfl
          refine pure_ (i := 16) (N := some 85) (v := ?_) (a' := ?_) #[true, true, true, true, true, true, true, true, true, true, true, false, true, true, true, true, true, false, false, false, false, false, false] rfl rfl (by kernel_rfl) (fun _ _ _ h => h) (Or.inl ⟨by rfl, ?_⟩) ?_ ?_
          rotate_left
          · intro w'
            go_simp
            with_reducible rfl
          rotate_left
          · simp only [Act.put, List.setIfInBounds_toArray, List.set_cons_zero, List.set_cons_succ]
            rfl
          refine take_ (i := 17) (N := some 86) (v := ?_) (a' := ?_) #[true, true, true, true, true, true, true, true, true, true, true, false, true, true, true, true, true, true, false, false, false, false, false] rfl rfl (by kernel_rfl) (fun _ _ _ h => h) (Or.inl ⟨by rfl, ?_⟩) hHeld ?_ ?_
          rotate_left
          · rintro w' ⟨s0, s1, s2⟩
            have c1_ := s0.cell 2 (.int .i64 b) rfl
            go_simp
            with_reducible rfl
          rotate_left
          · simp only [Act.put, List.setIfInBounds_toArray, List.set_cons_zero, List.set_cons_succ]
            rfl
          refine pure_ (i := 18) (N := some 87) (v := .agg (arrN 3 (fun k => ([r, g, b] : List Int).getD k 0))) (a' := ?_) #[true, true, true, true, true, true, true, true, true, true, true, false, true, true, true, true, true, true, true, false, false, false, false] rfl rfl (by kernel_rfl) (fun _ _ _ h => h) (Or.inl ⟨by rfl, fun w' => exec_build rfl (by kernel_rfl)⟩) ?_ ?_
          rotate_left
          · simp only [Act.put, List.setIfInBounds_toArray, List.set_cons_zero, List.set_cons_succ]
            rfl
          refine one_ (i := 11) (N := some 80) #[true, true, true, true, true, true, true, true, true, true, true, true, true, true, true, true, true, true, true, false, false, false, false] rfl rfl (by kernel_rfl) (by decide) (fun K hK => ?_)
          refine goes_ Try.func26 (by kernel_rfl) rfl #[.agg (profC n0 (.slice A1 L0.length c1) m0), .agg #[.int .i64 r, .int .i64 g, .int .i64 b, .int .i64 a]] (by rfl) rfl rfl (by simp only [List.map_toArray, List.map_cons, List.map_nil]; rfl) ?_
          refine (HL1.out A1 c1 _ (HD_1.out _ (Below.refl _ _)) hc1).mono ?_
          rintro e W1 ⟨rfl, b1⟩
          refine ⟨_, rfl, ?_⟩
          have HK := Lib.hid (HK.out.trans (b1.mono (Nat.le_trans (Nat.le_of_eq HB.out.symm) HK.out.size)))
          have s0 := hHeld.1.kept b1 hHeld.1.lt
          have s1 := hHeld.2.1.kept b1 hHeld.2.1.lt
          have s2 := hHeld.2.2.kept b1 hHeld.2.2.lt
          have HD_2 : Hid (∀  w', Below W1.heap.size W1 w' → Kd.C k72 w' A1 L0.length L0) := fun  w' h => HD_1.out  w' (b1.trans (h.mono b1.size))
          clear HD_1
          refine hK.out _ _ ⟨s0, s1, s2⟩ (fun hHeld => ?_)
          clear hK K b1
          refine norm_ (a' := ?_) ?_ ?_
          rotate_left
          · show Act.put _ (some 80) _ = _
            simp only [Act.put, List.setIfInBounds_toArray, List.set_cons_zero, List.set_cons_succ]
            rfl
          refine pure_ (i := 19) (N := some 88) (v := .bool false) (a' := ?_) #[true, true, true, true, true, true, true, true, true, true, true, true, true, true, true, true, true, true, true, true, false, false, false] rfl rfl (by kernel_rfl) (fun _ _ _ h => h) (Or.inl ⟨by rfl, fun w' => exec_neq3 rfl rfl rfl hlp⟩) ?_ ?_
          rotate_left
          · simp only [Act.put, List.setIfInBounds_toArray, List.set_cons_zero, List.set_cons_succ]
            rfl
          refine pure_ (i := 20) (N := some 89) (v := ?_) (a' := ?_) #[true, true, true, true, true, true, true, true, true, true, true, true, true, true, true, true, true, true, true, true, true, false, false] rfl rfl (by kernel_rfl) (fun _ _ _ h => h) (Or.inl ⟨by rfl, ?_⟩) ?_ ?_
          rotate_left
          · intro w'
            go_simp
            with_reducible rfl
          rotate_left
          · simp only [Act.put, List.setIfInBounds_toArray, List.set_cons_zero, List.set_cons_succ]
            rfl
          refine pure_ (i := 21) (N := some 90) (v := ?_) (a' := ?_) #[true, true, true, true, true, true, true, true, true, true, true, true, true, true, true, true, true, true, true, true, true, true, false] rfl rfl (by kernel_rfl) (fun _ _ _ h => h) (Or.inl ⟨by rfl, ?_⟩) ?_ ?_
          rotate_left
          · intro w'
            go_simp
            with_reducible rfl
          rotate_left
          · simp only [Act.put, List.setIfInBounds_toArray, List.set_cons_zero, List.set_cons_succ]
            rfl
          refine pure_ (i := 22) (N := some 91) (v := ?_) (a' := ?_) #[true, true, true, true, true, true, true, true, true, true, true, true, true, true, true, true, true, true, true, true, true, true, true] rfl rfl (by kernel_rfl) (fun _ _ _ h => h) (Or.inl ⟨by rfl, ?_⟩) ?_ ?_
          rotate_left
          · intro w'
            go_simp
            with_reducible rfl
          rotate_left
          · simp only [Act.put, List.setIfInBounds_toArray, List.set_cons_zero, List.set_cons_succ]
            rfl
          refine done_ (by kernel_rfl) ?_
          go_wp2
          go_meet
          case rel => exact ⟨rfl, hHeld.1, hHeld.2.1, Lib.hid (HD_2.out _ (Below.refl _ _)), HK.out⟩
      case rest =>
        obtain ⟨rfl, hX, hP, HCC, hB5⟩ := hcut
        obtain ⟨w40, hw40⟩ : ∃ w40 : World, w40 = wc := ⟨_, rfl⟩
        subst hw40
        have hBq : B ≠ q1 := nBq.out
        have hBq2 : B ≤ q1 := nBl.out
        have cc := hP.cell 1 _ (profC_1 _ _ _)
        have ff := holdsC_free hP 1
        have v1 := holdsC_set hP 1 (.slice A l.length c)
        rw [profC_set1] at v1
        have v0 : holdsC (w40.setCell ⟨q1, 1, none⟩ (.slice A l.length c)) B 35 #[.int .i64 r, .int .i64 g, .int .i64 b, .int .i64 a] := by
          unfold holdsC at *
          rw [Below.heap_setCell w40 ⟨q1, 1, none⟩ _ B (by show B ≠ q1; exact hBq)]; exact hX
        have vb : Below B w (w40.setCell ⟨q1, 1, none⟩ (.slice A l.length c)) := hB5.setCell (by show B ≤ q1; exact hBq2) _
        go_upto_region 9 with fail
        clear hX hP hB5 HCC cc ff
        generalize w40.setCell ⟨q1, 1, none⟩ (.slice A l.length c) = w41 at *
        have x0 := v0.cell 0 (.int .i64 r) rfl
        go_wp2_with (refine wpList_load_row rfl 25 (.tmp 5) rfl q1 rfl 25 (profC n0 (.slice A l.length c) m0) (0, 0) _ v1 Try.underlying25 rfl (profC_info _ _ _) ?_)
        refine (HG1.out _ vb).mono ?_; rintro e w42 ⟨rfl, b1⟩
        have v0_ := v0.kept b1 v0.lt
        have v1_ := v1.kept b1 v1.lt
        have vb_ := vb.trans (b1.mono (Nat.le_trans (Nat.le_of_eq HB.out.symm) vb.size))
        clear v0 v1 vb b1
        have H3 : holdsC (w42.alloc (.cells #[.int .i64 0, .int .i64 0, .int .i64 0] 47)) w42.heap.size 47 #[.int .i64 0, .int .i64 0, .int .i64 0] := heap_alloc_new _ _
        have x0_ := (v0_.alloc (.cells #[.int .i64 0, .int .i64 0, .int .i64 0] 47)).setRowOther (g' := w42.heap.size) (by have := v0_.lt; omega) (arrN 3 gp)
        have nx0_ : B < w42.heap.size := v0_.lt
        have x1_ := (v1_.alloc (.cells #[.int .i64 0, .int .i64 0, .int .i64 0] 47)).setRowOther (g' := w42.heap.size) (by have := v1_.lt; omega) (arrN 3 gp)
        have nx1_ : q1 < w42.heap.size := v1_.lt
        have x2_ := holdsC_row H3 (arrN 3 gp)
        have nq5 : B ≤ w42.heap.size := by rw [← HB.out]; exact vb_.size
        have xb_ := below_setRow (vb_.alloc nq5 (.cells #[.int .i64 0, .int .i64 0, .int .i64 0] 47)) nq5 (arrN 3 gp)
        go_upto_region 10 with (first | (refine wpList_store_arr rfl 47 (.tmp 10) (.tmp 102) rfl rfl rfl H3 rfl hi3 ?_))
        clear H3 v0_ v1_ vb_
        generalize (w42.alloc (.cells #[.int .i64 0, .int .i64 0, .int .i64 0] 47)).setRow w42.heap.size (arrN 3 gp) = w43 at *
        generalize w42.heap.size = q5 at *
        obtain ⟨gr1, gr2⟩ := HGR.out
        have t1 : (gp 0 == gp 1) = true := by simpa using gr1
        have t2 : (gp 1 == gp 2) = true := by simpa using gr2
        clear gr1 gr2
        have p0 := x2_.cell 0 (.int .i64 (gp 0)) (arrN_get 3 _ 0 (by omega))
        have p1 := x2_.cell 1 (.int .i64 (gp 1)) (arrN_get 3 _ 1 (by omega))
        have p2 := x2_.cell 2 (.int .i64 (gp 2)) (arrN_get 3 _ 2 (by omega))
        go_wp2
        go_ret
        exact ⟨rfl, by rw [HB.out]; exact xb_⟩
end Go.Proofs.Ytlpfepcmpccbeaa.Lw
