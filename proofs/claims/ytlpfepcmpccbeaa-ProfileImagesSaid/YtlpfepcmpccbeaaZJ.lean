/-
  Proved: contracts of functions of the program and of the reference, several texts of mine in one; the conditions stand at each theorem.
-/
import Derived.Test.YtlpfepcmpccbeaaZI
/-
  profile.Image.
-/
namespace Go.Proofs.Ytlpfepcmpccbeaa.Im
open Go.RowKit Go.Proofs.Ytlpfepcmpccbeaa.Pf Go.Proofs.Ytlpfepcmpccbeaa.NM Go.Proofs.Ytlpfepcmpccbeaa.Cv Go.Proofs.Ytlpfepcmpccbeaa.Nm9 Go.Proofs.Ytlpfepcmpccbeaa.Mx Go.Proofs.Ytlpfepcmpccbeaa.PNum Go.Proofs.YtlpfepcmpccbeaaW.PrintWords Go.Proofs.YtlpfepcmpccbeaaW.PrintMore Go.Proofs.YtlpfepcmpccbeaaW.PrintLast
set_option linter.unusedVariables false
set_option maxRecDepth 20000 in
set_option maxHeartbeats 8000000 in
theorem pImage_any (nm : ByteArray) (A : Option Addr) (c : Nat) (l : List Kn) (m : Nat → Int) (nm' : ByteArray) (A' : Option Addr) (c' : Nat) (l' : List Kn) (m' : Nat → Int) (W H : Int) (Ax : Option Addr) (cx : Nat) (px : List Px) (w : World) (hs : nm.size ≤ 140737488355232) (hl : l.length ≤ 140737488355232) (hr : Kd.C k72 w A l.length l) (hc : l.length ≤ c) (hs' : nm'.size ≤ 140737488355232) (hr' : Kd.C k72 w A' l'.length l') (hc' : l'.length ≤ c') (hx : Kd.C k35 w Ax px.length px) (hcx : px.length ≤ cx) :
    Calls Try.prog 10 #[.agg (profC nm (.slice A l.length c) m), .agg (profC nm' (.slice A' l'.length c') m'), .agg (imgC W H (.slice Ax px.length cx))] w fun e w' => ∃ A2 c2, e = .returned (.tuple #[.agg (imgC (imgW (imgE (bothC nm l m nm' l' m') W H px) W) (imgW (imgE (bothC nm l m nm' l' m') W H px) H) (.slice A2 (imgL (imgE (bothC nm l m nm' l' m') W H px) (px.map (cvP nm l m nm' l' m'))).length c2)), .int .i64 (imgE (bothC nm l m nm' l' m') W H px)]) ∧ Kd.C k35 w' A2 (imgL (imgE (bothC nm l m nm' l' m') W H px) (px.map (cvP nm l m nm' l' m'))).length (imgL (imgE (bothC nm l m nm' l' m') W H px) (px.map (cvP nm l m nm' l' m'))) ∧ (imgL (imgE (bothC nm l m nm' l' m') W H px) (px.map (cvP nm l m nm' l' m'))).length ≤ c2 ∧ Below w.heap.size w w' := by
  have HBO : Hid (∀ w', Below w.heap.size w w' → Calls Try.prog 31 #[.agg (profC nm (.slice A l.length c) m), .agg (profC nm' (.slice A' l'.length c') m')] w' fun e w'' => e = .returned (.int .i64 (bothC nm l m nm' l' m')) ∧ Below w'.heap.size w' w'') := fun w' hb => both_any nm nm' A A' c c' l l' m m' w' hs hs' (Kd.C_below hr hb) hc (Kd.C_below hr' hb) hc'
  have HEQ : Hid (∀ w', Below w.heap.size w w' → Calls Try.prog 34 #[.agg (profC nm (.slice A l.length c) m), .agg (profC nm' (.slice A' l'.length c') m')] w' fun e w'' => e = .returned (.bool (profSame nm l m nm' l' m')) ∧ Below w'.heap.size w' w'') := fun w' hb => pequal_any nm nm' A A' c c' l l' m m' w' hl (Kd.C_below hr hb) hc (Kd.C_below hr' hb) hc'
  have HL : Hid (∀ (p : Px) w', Below w.heap.size w w' → Calls Try.prog 37 #[.agg (profC nm (.slice A l.length c) m), .agg (pixC p.f0 p.f1 p.f2 p.f3)] w' fun e w'' => e = .returned (.agg (arrN 3 (linV l m p.f0 p.f1 p.f2))) ∧ Below w'.heap.size w' w'') := fun p w' hb => plinear_any nm A c l m p.f0 p.f1 p.f2 p.f3 w' (Kd.C_below hr hb) hc
  have HN : Hid (∀ w', Below w.heap.size w w' → Calls Try.prog 35 #[.agg (profC nm' (.slice A' l'.length c') m')] w' fun e w'' => ∃ A2 c2, e = .returned (.agg (encC (invV m') (.slice A2 (invK l').length c2))) ∧ Kd.R k72 72 w'' w'.heap.size (fun _ => True) (.slice A2 (invK l').length c2) (invK l') ∧ Below w'.heap.size w' w'') := fun w' hb => newEncoder_any nm' A' c' l' m' w' (Kd.C_below hr' hb) hc'
  have HVA := Lib.hid (fun (p : Px) (w : World) => pvalid_any p w)
  have HX : Hid (∀ w', Below w.heap.size w w' → Kd.C k35 w' Ax px.length px) := fun w' hb => Kd.C_below hx hb
  have HCL : Hid (px.length ≤ 65536 → ∀ w', Below w.heap.size w w' → Calls Try.prog 33 #[.slice Ax px.length cx] w' fun e w'' => ∃ A2 c2, e = .returned (.slice A2 px.length c2) ∧ Kd.R k35 35 w'' w'.heap.size (fun _ => True) (.slice A2 px.length c2) px ∧ Below w'.heap.size w' w'') := fun h w' hb => clone_any Ax cx px w' (Kd.C_below hx hb) hcx h
  have HCS : Hid ((bothC nm l m nm' l' m') = 0 → (profSame nm l m nm' l' m') = true → px.all okX = true → px.map (cvP nm l m nm' l' m') = px) := fun a b h => conv_same a b h
  have HCD : Hid ((bothC nm l m nm' l' m') = 0 → (profSame nm l m nm' l' m') = false → (cvP nm l m nm' l' m') = fun p => pxF (encE (invK l') (invV m') (linV l m p.f0 p.f1 p.f2) p.f3)) := fun a b => conv_diff a b
  have HE : Hid (imgE (bothC nm l m nm' l' m') W H px = if (bothC nm l m nm' l' m') = 0 then (if badB W H px.length = true then 15 else if px.all okX = true then 0 else 2) else (bothC nm l m nm' l' m')) := rfl
  have HBD : Hid (badB W H px.length = if W < 0 then true else if W > 256 then true else if H < 0 then true else if H > 256 then true else if ((W == 0) != (H == 0)) = true then true else ((px.length : Int) != wrap64 (W * H))) := rfl
  have HLN : Hid (badB W H px.length = false → px.length ≤ 65536) := badB_len
  generalize imgE (bothC nm l m nm' l' m') W H px = ie at *
  generalize (bothC nm l m nm' l' m') = pc at *
  generalize (profSame nm l m nm' l' m') = sm at *
  generalize (cvP nm l m nm' l' m') = cv at *
  generalize badB W H px.length = bb at *
  go_enter Try.func10, Try.ntmps10
  go_upto_region 1 with fail
  have h0 : holdsC ((((w.alloc (.cells (profC nm (.slice A l.length c) m) 25)).alloc (.cells (profC nm' (.slice A' l'.length c') m') 25)).alloc (.cells (imgC W H (.slice Ax px.length cx)) 28)).alloc (.cells #[.int .i64 0, .int .i64 0, .slice none 0 0] 28)) w.heap.size 25 (profC nm (.slice A l.length c) m) := by
    have h : holdsC (w.alloc (.cells (profC nm (.slice A l.length c) m) 25)) w.heap.size 25 (profC nm (.slice A l.length c) m) := heap_alloc_new _ _
    have h := (((h.alloc (.cells (profC nm' (.slice A' l'.length c') m') 25)).alloc (.cells (imgC W H (.slice Ax px.length cx)) 28)).alloc (.cells #[.int .i64 0, .int .i64 0, .slice none 0 0] 28))
    exact h
  have h1 : holdsC ((((w.alloc (.cells (profC nm (.slice A l.length c) m) 25)).alloc (.cells (profC nm' (.slice A' l'.length c') m') 25)).alloc (.cells (imgC W H (.slice Ax px.length cx)) 28)).alloc (.cells #[.int .i64 0, .int .i64 0, .slice none 0 0] 28)) (w.heap.size + 1) 25 (profC nm' (.slice A' l'.length c') m') := by
    have h : holdsC ((w.alloc (.cells (profC nm (.slice A l.length c) m) 25)).alloc (.cells (profC nm' (.slice A' l'.length c') m') 25)) (w.alloc (.cells (profC nm (.slice A l.length c) m) 25)).heap.size 25 (profC nm' (.slice A' l'.length c') m') := heap_alloc_new _ _
    have h := ((h.alloc (.cells (imgC W H (.slice Ax px.length cx)) 28)).alloc (.cells #[.int .i64 0, .int .i64 0, .slice none 0 0] 28))
    simpa using h
  have h2 : holdsC ((((w.alloc (.cells (profC nm (.slice A l.length c) m) 25)).alloc (.cells (profC nm' (.slice A' l'.length c') m') 25)).alloc (.cells (imgC W H (.slice Ax px.length cx)) 28)).alloc (.cells #[.int .i64 0, .int .i64 0, .slice none 0 0] 28)) (w.heap.size + 1 + 1) 28 (imgC W H (.slice Ax px.length cx)) := by
    have h : holdsC (((w.alloc (.cells (profC nm (.slice A l.length c) m) 25)).alloc (.cells (profC nm' (.slice A' l'.length c') m') 25)).alloc (.cells (imgC W H (.slice Ax px.length cx)) 28)) ((w.alloc (.cells (profC nm (.slice A l.length c) m) 25)).alloc (.cells (profC nm' (.slice A' l'.length c') m') 25)).heap.size 28 (imgC W H (.slice Ax px.length cx)) := heap_alloc_new _ _
    have h := (h.alloc (.cells #[.int .i64 0, .int .i64 0, .slice none 0 0] 28))
    simpa using h
  have h3 : holdsC ((((w.alloc (.cells (profC nm (.slice A l.length c) m) 25)).alloc (.cells (profC nm' (.slice A' l'.length c') m') 25)).alloc (.cells (imgC W H (.slice Ax px.length cx)) 28)).alloc (.cells #[.int .i64 0, .int .i64 0, .slice none 0 0] 28)) (w.heap.size + 1 + 1 + 1) 28 #[.int .i64 0, .int .i64 0, .slice none 0 0] := by
    have h : holdsC ((((w.alloc (.cells (profC nm (.slice A l.length c) m) 25)).alloc (.cells (profC nm' (.slice A' l'.length c') m') 25)).alloc (.cells (imgC W H (.slice Ax px.length cx)) 28)).alloc (.cells #[.int .i64 0, .int .i64 0, .slice none 0 0] 28)) (((w.alloc (.cells (profC nm (.slice A l.length c) m) 25)).alloc (.cells (profC nm' (.slice A' l'.length c') m') 25)).alloc (.cells (imgC W H (.slice Ax px.length cx)) 28)).heap.size 28 #[.int .i64 0, .int .i64 0, .slice none 0 0] := heap_alloc_new _ _
    have h := h
    simpa using h
  have hb : Below w.heap.size w ((((w.alloc (.cells (profC nm (.slice A l.length c) m) 25)).alloc (.cells (profC nm' (.slice A' l'.length c') m') 25)).alloc (.cells (imgC W H (.slice Ax px.length cx)) 28)).alloc (.cells #[.int .i64 0, .int .i64 0, .slice none 0 0] 28)) := (((((Below.refl _ _).alloc (Nat.le_refl _) _).alloc (by simp) _).alloc (by simp; omega) _).alloc (by simp; omega) _)
  generalize ((((w.alloc (.cells (profC nm (.slice A l.length c) m) 25)).alloc (.cells (profC nm' (.slice A' l'.length c') m') 25)).alloc (.cells (imgC W H (.slice Ax px.length cx)) 28)).alloc (.cells #[.int .i64 0, .int .i64 0, .slice none 0 0] 28)) = wc at *
  generalize hB : w.heap.size = B at *
  have HB := Lib.hid hB
  clear hB
  go_wp2_with (first
    | (refine wpList_load_row rfl 25 (.tmp 3) rfl B rfl 25 (profC nm (.slice A l.length c) m) (0, 0) _ h0 Try.underlying25 rfl (profC_info _ _ _) ?_)
    | (refine wpList_load_row rfl 25 (.tmp 4) rfl (B + 1) rfl 25 (profC nm' (.slice A' l'.length c') m') (0, 0) _ h1 Try.underlying25 rfl (profC_info _ _ _) ?_))
  refine (HBO.out _ hb).mono ?_; rintro e w1 ⟨rfl, b1⟩
  have g0_ := h0.kept b1 h0.lt
  have g1_ := h1.kept b1 h1.lt
  have g2_ := h2.kept b1 h2.lt
  have g3_ := h3.kept b1 h3.lt
  have gb_ := hb.trans (b1.mono (Nat.le_trans (Nat.le_of_eq HB.out.symm) hb.size))
  clear h0 h1 h2 h3 hb b1
  by_cases hpc : pc = 0
  · have hne : (pc == 0) = true := by simpa using hpc
    go_upto_region 4 with fail
    clear HBO hne
    have HE1 : Hid (ie = if bb = true then 15 else if px.all okX = true then 0 else 2) := by
      show _ = _
      rw [HE.out, if_pos hpc]
    clear HE
    have c0 := g2_.cell 0 (.int .i64 W) rfl
    have c1 := g2_.cell 1 (.int .i64 H) rfl
    have c2 := g2_.cell 2 (.slice Ax px.length cx) rfl
    go_cut [59] (fun v59 wc => v59 = .bool bb ∧ holdsC wc B 25 (profC nm (.slice A l.length c) m) ∧ holdsC wc (B + 1) 25 (profC nm' (.slice A' l'.length c') m') ∧ holdsC wc (B + 1 + 1) 28 (imgC W H (.slice Ax px.length cx)) ∧ holdsC wc (B + 1 + 1 + 1) 28 #[.int .i64 0, .int .i64 0, .slice none 0 0] ∧ Below B w wc)
    case first =>
      have HD := HBD.out
      clear HBD
      by_cases d0 : W < 0
      · rw [if_pos d0] at HD
        have e0 : decide (W < 0) = true := decide_eq_true d0
        clear d0
        subst HD
        go_wp2
        go_meet
        case rel => exact ⟨by first | rfl | (simp; done) | (simp [*]; done), g0_, g1_, g2_, g3_, gb_⟩
      · rw [if_neg d0] at HD
        have e0 : decide (W < 0) = false := decide_eq_false d0
        clear d0
        by_cases d1 : W > 256
        · rw [if_pos d1] at HD
          have e1 : decide (256 < W) = true := decide_eq_true d1
          clear d1
          subst HD
          go_wp2
          go_meet
          case rel => exact ⟨by first | rfl | (simp; done) | (simp [*]; done), g0_, g1_, g2_, g3_, gb_⟩
        · rw [if_neg d1] at HD
          have e1 : decide (256 < W) = false := decide_eq_false d1
          clear d1
          by_cases d2 : H < 0
          · rw [if_pos d2] at HD
            have e2 : decide (H < 0) = true := decide_eq_true d2
            clear d2
            subst HD
            go_wp2
            go_meet
            case rel => exact ⟨by first | rfl | (simp; done) | (simp [*]; done), g0_, g1_, g2_, g3_, gb_⟩
          · rw [if_neg d2] at HD
            have e2 : decide (H < 0) = false := decide_eq_false d2
            clear d2
            by_cases d3 : H > 256
            · rw [if_pos d3] at HD
              have e3 : decide (256 < H) = true := decide_eq_true d3
              clear d3
              subst HD
              go_wp2
              go_meet
              case rel => exact ⟨by first | rfl | (simp; done) | (simp [*]; done), g0_, g1_, g2_, g3_, gb_⟩
            · rw [if_neg d3] at HD
              have e3 : decide (256 < H) = false := decide_eq_false d3
              clear d3
              by_cases d4 : ((W == 0) != (H == 0)) = true
              · rw [if_pos d4] at HD
                have e4 : ((W == 0) != (H == 0)) = true := d4
                (try (have e41 : decide ((W == 0) = (H == 0)) = false := by simpa using d4))
                (try (have e42 : ((W == 0) == (H == 0)) = false := by simpa using d4))
                (try (have e43 : ¬ ((W == 0) = (H == 0)) := by simpa using d4))
                clear d4
                subst HD
                go_wp2
                go_meet
                case rel => exact ⟨by first | rfl | (simp; done) | (simp [*]; done), g0_, g1_, g2_, g3_, gb_⟩
              · rw [if_neg d4] at HD
                have e4 : ((W == 0) != (H == 0)) = false := by simpa using d4
                (try (have e41 : decide ((W == 0) = (H == 0)) = true := by simpa using d4))
                (try (have e42 : ((W == 0) == (H == 0)) = true := by simpa using d4))
                clear d4
                subst HD
                go_wp2
                go_meet
                case rel => exact ⟨by first | rfl | (simp; done) | (simp [*]; done), g0_, g1_, g2_, g3_, gb_⟩
    case rest =>
      clear c0 c1 c2 HBD g0_ g1_ g2_ g3_ gb_
      obtain ⟨rfl, h0, h1, h2, h3, hb⟩ := hcut
      cases hbb : bb
      · have hlen := HLN.out hbb
        have HE2 : Hid (ie = if px.all okX = true then 0 else 2) := by
          show _ = _
          rw [HE1.out, hbb, if_neg (by decide)]
        clear HE1 HLN
        have c2 := h2.cell 2 (.slice Ax px.length cx) rfl
        go_wp2_with fail
        go_loopw [10, 64] (fun _ v64 wr => ∃ i : Nat, i ≤ px.length ∧ v64 = .int .i64 i ∧ (px.take i).all okX = true ∧ holdsC wr B 25 (profC nm (.slice A l.length c) m) ∧ holdsC wr (B + 1) 25 (profC nm' (.slice A' l'.length c') m') ∧ holdsC wr (B + 1 + 1) 28 (imgC W H (.slice Ax px.length cx)) ∧ holdsC wr (B + 1 + 1 + 1) 28 #[.int .i64 0, .int .i64 0, .slice none 0 0] ∧ Below B w wr) (fun _ v _ => px.length - (intOf v).toNat)
        case atStart => exact ⟨0, by omega, rfl, rfl, h0, h1, h2, h3, hb⟩
        case round =>
          clear h0 h1 h2 h3 hb c2
          obtain ⟨i, hi, rfl, hok, x0, x1, x2, x3, xb⟩ := hrel
          obtain ⟨w20, hw20⟩ : ∃ w20 : World, w20 = wr := ⟨_, rfl⟩
          subst hw20
          by_cases hil : i < px.length
          · have hd : decide ((i : Int) < (px.length : Int)) = true := decide_eq_true (by omega)
            obtain ⟨ad, e5, y0, y1, y2, y3⟩ := at_T35 (HX.out w20 xb) (i : Int) (by omega) (by omega)
            cases e5
            simp only [Int.toNat_natCast] at y0 y1 y2 y3
            have p1 : (0 ≤ (i : Int)) = True := eq_true (by omega)
            have p2 : ((i : Int) < (px.length : Int)) = True := eq_true (by omega)
            have HK1 : Hid (okX (rd_T35 px (i : Int)) = true → (px.take (i + 1)).all okX = true) := fun h => all_step hil hok h
            have HK0 : Hid (okX (rd_T35 px (i : Int)) = false → px.all okX = false) := fun h => all_no hil h
            generalize rd_T35 px (i : Int) = p at *
            have H3 : holdsC (w20.alloc (.cells #[.int .i64 0, .int .i64 0, .int .i64 0, .int .i64 0] 35)) w20.heap.size 35 #[.int .i64 0, .int .i64 0, .int .i64 0, .int .i64 0] := heap_alloc_new _ _
            have g0_ := (x0.alloc (.cells #[.int .i64 0, .int .i64 0, .int .i64 0, .int .i64 0] 35)).setRowOther (g' := w20.heap.size) (by have := x0.lt; omega) (pixC p.f0 p.f1 p.f2 p.f3)
            have ng0_ : B < w20.heap.size := x0.lt
            have g1_ := (x1.alloc (.cells #[.int .i64 0, .int .i64 0, .int .i64 0, .int .i64 0] 35)).setRowOther (g' := w20.heap.size) (by have := x1.lt; omega) (pixC p.f0 p.f1 p.f2 p.f3)
            have ng1_ : (B + 1) < w20.heap.size := x1.lt
            have g2_ := (x2.alloc (.cells #[.int .i64 0, .int .i64 0, .int .i64 0, .int .i64 0] 35)).setRowOther (g' := w20.heap.size) (by have := x2.lt; omega) (pixC p.f0 p.f1 p.f2 p.f3)
            have ng2_ : (B + 1 + 1) < w20.heap.size := x2.lt
            have g3_ := (x3.alloc (.cells #[.int .i64 0, .int .i64 0, .int .i64 0, .int .i64 0] 35)).setRowOther (g' := w20.heap.size) (by have := x3.lt; omega) (pixC p.f0 p.f1 p.f2 p.f3)
            have ng3_ : (B + 1 + 1 + 1) < w20.heap.size := x3.lt
            have g4_ := holdsC_row H3 (pixC p.f0 p.f1 p.f2 p.f3)
            have nq1 : B ≤ w20.heap.size := by rw [← HB.out]; exact xb.size
            have gb_ := below_setRow (xb.alloc nq1 (.cells #[.int .i64 0, .int .i64 0, .int .i64 0, .int .i64 0] 35)) nq1 (pixC p.f0 p.f1 p.f2 p.f3)
            go_upto_region 9 with (first | (refine wpList_store_row rfl 35 (.tmp 10) (.tmp 67) rfl _ (pixC p.f0 p.f1 p.f2 p.f3) rfl rfl 35 _ H3 (by kernel_rfl) rfl (by kernel_rfl) ?_))
            clear H3 x0 x1 x2 x3 xb
            generalize (w20.alloc (.cells #[.int .i64 0, .int .i64 0, .int .i64 0, .int .i64 0] 35)).setRow w20.heap.size (pixC p.f0 p.f1 p.f2 p.f3) = w21 at *
            generalize w20.heap.size = q1 at *
            clear y0 y1 y2 y3
            go_wp2_with (refine wpList_load_row rfl 35 (.tmp 10) rfl q1 rfl 35 (pixC p.f0 p.f1 p.f2 p.f3) (0, 0) _ g4_ Try.underlying35 rfl (by kernel_rfl) ?_)
            have HV1 := Lib.hid (fun w => HVA.out p w)
            generalize okX p = op at *
            refine (HV1.out _).mono ?_; rintro e w22 ⟨rfl, b1⟩
            have k0_ := g0_.kept b1 g0_.lt
            have k1_ := g1_.kept b1 g1_.lt
            have k2_ := g2_.kept b1 g2_.lt
            have k3_ := g3_.kept b1 g3_.lt
            have k4_ := g4_.kept b1 g4_.lt
            have kb_ := gb_.trans (b1.mono (Nat.le_trans (Nat.le_of_eq HB.out.symm) gb_.size))
            clear g0_ g1_ g2_ g3_ g4_ gb_ b1
            cases hop : op
            · have hall := HK0.out hop
              go_wp2_with (first
                | (refine wpList_build_as rfl 28 _ rfl #[.int .i64 0, .int .i64 0, .slice none 0 0] (by kernel_rfl) ?_)
                | (refine wpList_store_row rfl 28 (.tmp 6) (.tmp 71) rfl (B + 1 + 1 + 1) #[.int .i64 0, .int .i64 0, .slice none 0 0] rfl rfl 28 _ k3_ (by kernel_rfl) rfl (by kernel_rfl) ?_))
              refine bodyPost_ret (v := .tuple #[.agg #[.int .i64 0, .int .i64 0, .slice none 0 0], .int .i64 2]) (results_row_tmp rfl _ _ rfl rfl (holdsC_row k3_ _) rfl Try.underlying28 (by kernel_rfl)) rfl ?_
              have hE : ie = 2 := by rw [HE2.out, hall]; rfl
              obtain ⟨q1_, q2⟩ := img_err (E := ie) (by rw [hE]; decide) W H (px.map cv)
              have q1 := q1_
              exact ⟨none, 0, by rw [q1, hE], by rw [q2]; exact Kd.C_nil _ _, by rw [q2]; exact Nat.le_refl _, by rw [HB.out]; exact below_setRow kb_ (by omega) _⟩
            · have hall := HK1.out hop
              go_wp2_with fail
              go_roundw
              case rel => exact ⟨i + 1, by omega, by go_num, hall, k0_, k1_, k2_, k3_, kb_⟩
              case measure => simp [intOf]; omega
          · have hd : decide ((i : Int) < (px.length : Int)) = false := decide_eq_false (by omega)
            obtain rfl : i = px.length := by omega
            rw [List.take_length] at hok
            have hE : Hid (ie = 0) := by
              show _ = _
              rw [HE2.out, if_pos hok]
            clear hi hil HE2
            go_upto_region 12 with fail
            go_cut [11] (fun v11 wd => ∃ (G : Nat) (A2 : Option Addr) (c2 : Nat), v11 = .pointer (some ⟨G, 0, none⟩) ∧ B + 1 + 1 + 1 < G ∧ holdsC wd G 28 (imgC W H (.slice A2 px.length c2)) ∧ Hid (Kd.R k35 35 wd (B + 1 + 1 + 1 + 1) (fun _ => True) (.slice A2 px.length c2) px) ∧ holdsC wd B 25 (profC nm (.slice A l.length c) m) ∧ holdsC wd (B + 1) 25 (profC nm' (.slice A' l'.length c') m') ∧ holdsC wd (B + 1 + 1) 28 (imgC W H (.slice Ax px.length cx)) ∧ holdsC wd (B + 1 + 1 + 1) 28 #[.int .i64 0, .int .i64 0, .slice none 0 0] ∧ Below B w wd)
            case first =>
              refine start_ (n := 10) (S := fun w' => holdsC w' (B + 1 + 1) 28 (imgC W H (.slice Ax px.length cx))) (ds := [9]) #[false, false, false, false, false, false, false, false, false, false] (by kernel_rfl) rfl rfl x2 (fun hHeld => ?_)
              have xb := xb.drew
              have x0 : holdsC w20.drew B 25 (profC nm (.slice A l.length c) m) := x0
              have x1 : holdsC w20.drew (B + 1) 25 (profC nm' (.slice A' l'.length c') m') := x1
              have x3 : holdsC w20.drew (B + 1 + 1 + 1) 28 #[.int .i64 0, .int .i64 0, .slice none 0 0] := x3
              generalize w20.drew = W0 at *
              refine pure_ (i := 0) (N := some 73) (v := ?_) (a' := ?_) #[true, false, false, false, false, false, false, false, false, false] rfl rfl (by kernel_rfl) (fun _ _ _ h => h) (Or.inl ⟨by rfl, ?_⟩) ?_ ?_
              rotate_left
              · intro w'
                go_simp
                with_reducible rfl
              rotate_left
              · simp only [Act.put, List.setIfInBounds_toArray, List.set_cons_zero, List.set_cons_succ]
                rfl
              refine take_ (i := 1) (N := some 74) (v := ?_) (a' := ?_) #[true, true, false, false, false, false, false, false, false, false] rfl rfl (by kernel_rfl) (fun _ _ _ h => h) (Or.inl ⟨by rfl, ?_⟩) hHeld ?_ ?_
              rotate_left
              · intro w' s
                have c0_ := s.cell 0 (.int .i64 W) rfl
                go_simp
                with_reducible rfl
              rotate_left
              · simp only [Act.put, List.setIfInBounds_toArray, List.set_cons_zero, List.set_cons_succ]
                rfl
              refine pure_ (i := 2) (N := some 75) (v := ?_) (a' := ?_) #[true, true, true, false, false, false, false, false, false, false] rfl rfl (by kernel_rfl) (fun _ _ _ h => h) (Or.inl ⟨by rfl, ?_⟩) ?_ ?_
              rotate_left
              · intro w'
                go_simp
                with_reducible rfl
              rotate_left
              · simp only [Act.put, List.setIfInBounds_toArray, List.set_cons_zero, List.set_cons_succ]
                rfl
              refine take_ (i := 3) (N := some 76) (v := ?_) (a' := ?_) #[true, true, true, true, false, false, false, false, false, false] rfl rfl (by kernel_rfl) (fun _ _ _ h => h) (Or.inl ⟨by rfl, ?_⟩) hHeld ?_ ?_
              rotate_left
              · intro w' s
                have c0_ := s.cell 1 (.int .i64 H) rfl
                go_simp
                with_reducible rfl
              rotate_left
              · simp only [Act.put, List.setIfInBounds_toArray, List.set_cons_zero, List.set_cons_succ]
                rfl
              refine pure_ (i := 4) (N := some 77) (v := ?_) (a' := ?_) #[true, true, true, true, true, false, false, false, false, false] rfl rfl (by kernel_rfl) (fun _ _ _ h => h) (Or.inl ⟨by rfl, ?_⟩) ?_ ?_
              rotate_left
              · intro w'
                go_simp
                with_reducible rfl
              rotate_left
              · simp only [Act.put, List.setIfInBounds_toArray, List.set_cons_zero, List.set_cons_succ]
                rfl
              refine take_ (i := 5) (N := some 78) (v := ?_) (a' := ?_) #[true, true, true, true, true, true, false, false, false, false] rfl rfl (by kernel_rfl) (fun _ _ _ h => h) (Or.inl ⟨by rfl, ?_⟩) hHeld ?_ ?_
              rotate_left
              · intro w' s
                have c0_ := s.cell 2 (.slice Ax px.length cx) rfl
                go_simp
                with_reducible rfl
              rotate_left
              · simp only [Act.put, List.setIfInBounds_toArray, List.set_cons_zero, List.set_cons_succ]
                rfl
              have x2 := hHeld
              clear hHeld
              refine twoR_ (i := 6) (j := 8) (Ni := some 79) (Nj := some 11) #[true, true, true, true, true, true, true, false, false, false] #[true, true, true, true, true, true, false, false, true, false] rfl rfl rfl rfl (by kernel_rfl) (by decide) (by decide) (fun K hK => ?_) (fun K hK => ?_)
              · skip
                refine goes_ Try.func33 (by kernel_rfl) rfl #[.slice Ax px.length cx] (by rfl) rfl rfl (by simp only [List.map_toArray, List.map_cons, List.map_nil]; rfl) ?_
                refine (HCL.out hlen _ xb).mono ?_
                rintro e V1 ⟨A2, c2, rfl, hR0, b1⟩
                refine ⟨_, rfl, ?_⟩
                have hR : Kd.R k35 35 V1 (B + 1 + 1 + 1 + 1) (fun _ => True) (.slice A2 px.length c2) px := Kd.R_lower hR0 (by have := x3.lt; omega)
                have x0 := x0.kept b1 x0.lt
                have x1 := x1.kept b1 x1.lt
                have x2 := x2.kept b1 x2.lt
                have x3 := x3.kept b1 x3.lt
                have xb := xb.trans (b1.mono (Nat.le_trans (Nat.le_of_eq HB.out.symm) xb.size))
                refine hK.out _ _ x2 (fun hHeld => ?_)
                clear hK K b1 hHeld hR0
                refine norm_ (a' := ?_) ?_ ?_
                rotate_left
                · show Act.put _ (some 79) _ = _
                  simp only [Act.put, List.setIfInBounds_toArray, List.set_cons_zero, List.set_cons_succ]
                  rfl
                refine pure_ (i := 7) (N := some 80) (v := .agg (imgC W H (.slice A2 px.length c2))) (a' := ?_) #[true, true, true, true, true, true, true, true, false, false] rfl rfl (by kernel_rfl) (fun _ _ _ h => h) (Or.inl ⟨by rfl, fun w' => exec_build rfl (by kernel_rfl)⟩) ?_ ?_
                rotate_left
                · simp only [Act.put, List.setIfInBounds_toArray, List.set_cons_zero, List.set_cons_succ]
                  rfl
                refine one_ (i := 8) (N := some 11) #[true, true, true, true, true, true, true, true, true, false] rfl rfl (by kernel_rfl) (by decide) (fun K hK => ?_)
                refine value_ (by rfl) rfl (exec_newI rfl) ?_
                have gG : holdsC (V1.alloc (.cells #[.int .i64 0, .int .i64 0, .slice none 0 0] 28)) V1.heap.size 28 #[.int .i64 0, .int .i64 0, .slice none 0 0] := heap_alloc_new _ _
                have hG : B + 1 + 1 + 1 < V1.heap.size := x3.lt
                have x0 := x0.alloc (.cells #[.int .i64 0, .int .i64 0, .slice none 0 0] 28)
                have x1 := x1.alloc (.cells #[.int .i64 0, .int .i64 0, .slice none 0 0] 28)
                have x2 := x2.alloc (.cells #[.int .i64 0, .int .i64 0, .slice none 0 0] 28)
                have x3 := x3.alloc (.cells #[.int .i64 0, .int .i64 0, .slice none 0 0] 28)
                have xb := xb.alloc (Nat.le_trans (by omega) (Nat.le_of_lt hG)) (.cells #[.int .i64 0, .int .i64 0, .slice none 0 0] 28)
                have hR := Kd.R_alloc hR (.cells #[.int .i64 0, .int .i64 0, .slice none 0 0] 28)
                refine hK.out _ _ x2 (fun hHeld => ?_)
                clear hK K hHeld
                refine norm_ (a' := ?_) ?_ ?_
                rotate_left
                · show Act.put _ (some 11) _ = _
                  simp only [Act.put, List.setIfInBounds_toArray, List.set_cons_zero, List.set_cons_succ]
                  rfl
                generalize V1.alloc (.cells #[.int .i64 0, .int .i64 0, .slice none 0 0] 28) = V2 at *
                generalize V1.heap.size = G at *
                refine last_ (i := 9) (N := none) #[true, true, true, true, true, true, true, true, true, true] rfl rfl (by kernel_rfl) (by decide) (fun K hK => ?_)
                have gE := holdsC_row gG (imgC W H (.slice A2 px.length c2))
                have hR := Lib.hid (R_setRowT hR gG (by decide) (imgC W H (.slice A2 px.length c2)))
                have x0 := x0.setRowOther (g' := G) (by omega) (imgC W H (.slice A2 px.length c2))
                have x1 := x1.setRowOther (g' := G) (by omega) (imgC W H (.slice A2 px.length c2))
                have x2 := x2.setRowOther (g' := G) (by omega) (imgC W H (.slice A2 px.length c2))
                have x3 := x3.setRowOther (g' := G) (by omega) (imgC W H (.slice A2 px.length c2))
                have xb := below_setRow xb (show B ≤ G by omega) (imgC W H (.slice A2 px.length c2))
                refine skip_ (by rfl) rfl (exec_storeC (c := (imgC W H (.slice A2 px.length c2))) rfl rfl rfl gG (by kernel_rfl) rfl (by kernel_rfl)) ?_
                refine hK.out _ _ ?_
                clear hK K gG
                refine done_ (by kernel_rfl) ?_
                go_wp2
                go_meet
                case rel => exact ⟨G, A2, c2, rfl, hG, gE, hR, x0, x1, x2, x3, xb⟩
              · skip
                refine value_ (by rfl) rfl (exec_newI rfl) ?_
                have gG : holdsC (W0.alloc (.cells #[.int .i64 0, .int .i64 0, .slice none 0 0] 28)) W0.heap.size 28 #[.int .i64 0, .int .i64 0, .slice none 0 0] := heap_alloc_new _ _
                have hG : B + 1 + 1 + 1 < W0.heap.size := x3.lt
                have x0 := x0.alloc (.cells #[.int .i64 0, .int .i64 0, .slice none 0 0] 28)
                have x1 := x1.alloc (.cells #[.int .i64 0, .int .i64 0, .slice none 0 0] 28)
                have x2 := x2.alloc (.cells #[.int .i64 0, .int .i64 0, .slice none 0 0] 28)
                have x3 := x3.alloc (.cells #[.int .i64 0, .int .i64 0, .slice none 0 0] 28)
                have xb := xb.alloc (Nat.le_trans (by omega) (Nat.le_of_lt hG)) (.cells #[.int .i64 0, .int .i64 0, .slice none 0 0] 28)
                refine hK.out _ _ x2 (fun hHeld => ?_)
                clear hK K hHeld
                refine norm_ (a' := ?_) ?_ ?_
                rotate_left
                · show Act.put _ (some 11) _ = _
                  simp only [Act.put, List.setIfInBounds_toArray, List.set_cons_zero, List.set_cons_succ]
                  rfl
                generalize W0.alloc (.cells #[.int .i64 0, .int .i64 0, .slice none 0 0] 28) = V3 at *
                generalize W0.heap.size = G at *
                refine one_ (i := 6) (N := some 79) #[true, true, true, true, true, true, true, false, true, false] rfl rfl (by kernel_rfl) (by decide) (fun K hK => ?_)
                refine goes_ Try.func33 (by kernel_rfl) rfl #[.slice Ax px.length cx] (by rfl) rfl rfl (by simp only [List.map_toArray, List.map_cons, List.map_nil]; rfl) ?_
                refine (HCL.out hlen _ xb).mono ?_
                rintro e V4 ⟨A2, c2, rfl, hR0, b1⟩
                refine ⟨_, rfl, ?_⟩
                have hR : Kd.R k35 35 V4 (B + 1 + 1 + 1 + 1) (fun _ => True) (.slice A2 px.length c2) px := Kd.R_lower hR0 (by have := x3.lt; omega)
                have x0 := x0.kept b1 x0.lt
                have x1 := x1.kept b1 x1.lt
                have x2 := x2.kept b1 x2.lt
                have x3 := x3.kept b1 x3.lt
                have gG := gG.kept b1 gG.lt
                have xb := xb.trans (b1.mono (Nat.le_trans (Nat.le_of_eq HB.out.symm) xb.size))
                refine hK.out _ _ x2 (fun hHeld => ?_)
                clear hK K b1 hHeld hR0
                refine norm_ (a' := ?_) ?_ ?_
                rotate_left
                · show Act.put _ (some 79) _ = _
                  simp only [Act.put, List.setIfInBounds_toArray, List.set_cons_zero, List.set_cons_succ]
                  rfl
                refine pure_ (i := 7) (N := some 80) (v := .agg (imgC W H (.slice A2 px.length c2))) (a' := ?_) #[true, true, true, true, true, true, true, true, true, false] rfl rfl (by kernel_rfl) (fun _ _ _ h => h) (Or.inl ⟨by rfl, fun w' => exec_build rfl (by kernel_rfl)⟩) ?_ ?_
                rotate_left
                · simp only [Act.put, List.setIfInBounds_toArray, List.set_cons_zero, List.set_cons_succ]
                  rfl
                refine last_ (i := 9) (N := none) #[true, true, true, true, true, true, true, true, true, true] rfl rfl (by kernel_rfl) (by decide) (fun K hK => ?_)
                have gE := holdsC_row gG (imgC W H (.slice A2 px.length c2))
                have hR := Lib.hid (R_setRowT hR gG (by decide) (imgC W H (.slice A2 px.length c2)))
                have x0 := x0.setRowOther (g' := G) (by omega) (imgC W H (.slice A2 px.length c2))
                have x1 := x1.setRowOther (g' := G) (by omega) (imgC W H (.slice A2 px.length c2))
                have x2 := x2.setRowOther (g' := G) (by omega) (imgC W H (.slice A2 px.length c2))
                have x3 := x3.setRowOther (g' := G) (by omega) (imgC W H (.slice A2 px.length c2))
                have xb := below_setRow xb (show B ≤ G by omega) (imgC W H (.slice A2 px.length c2))
                refine skip_ (by rfl) rfl (exec_storeC (c := (imgC W H (.slice A2 px.length c2))) rfl rfl rfl gG (by kernel_rfl) rfl (by kernel_rfl)) ?_
                refine hK.out _ _ ?_
                clear hK K gG
                refine done_ (by kernel_rfl) ?_
                go_wp2
                go_meet
                case rel => exact ⟨G, A2, c2, rfl, hG, gE, hR, x0, x1, x2, x3, xb⟩
            case rest =>
              clear x0 x1 x2 x3 xb
              obtain ⟨G, A2, c2, rfl, hG, xG, HR, x0, x1, x2, x3, xb⟩ := hcut
              obtain ⟨w30, hw30⟩ : ∃ w30 : World, w30 = wc := ⟨_, rfl⟩
              subst hw30
              have HR__0 : Hid (∀  w', Below w30.heap.size w30 w' → Kd.R k35 35 w' (B + 1 + 1 + 1 + 1) (fun _ => True) (.slice A2 px.length c2) px) := fun w' h => Kd.R_below HR.out h
              clear HR
              go_wp2_with (first
                | (refine wpList_load_row rfl 25 (.tmp 3) rfl B rfl 25 (profC nm (.slice A l.length c) m) (0, 0) _ x0 Try.underlying25 rfl (profC_info _ _ _) ?_)
                | (refine wpList_load_row rfl 25 (.tmp 4) rfl (B + 1) rfl 25 (profC nm' (.slice A' l'.length c') m') (0, 0) _ x1 Try.underlying25 rfl (profC_info _ _ _) ?_))
              refine (HEQ.out _ xb).mono ?_; rintro e w31 ⟨rfl, b1⟩
              have g0_ := x0.kept b1 x0.lt
              have g1_ := x1.kept b1 x1.lt
              have g2_ := x2.kept b1 x2.lt
              have g3_ := x3.kept b1 x3.lt
              have g4_ := xG.kept b1 xG.lt
              have gb_ := xb.trans (b1.mono (Nat.le_trans (Nat.le_of_eq HB.out.symm) xb.size))
              have HR__1 : Hid (∀  w', Below w31.heap.size w31 w' → Kd.R k35 35 w' (B + 1 + 1 + 1 + 1) (fun _ => True) (.slice A2 px.length c2) px) := fun  w' h => HR__0.out  w' (b1.trans (h.mono b1.size))
              clear HR__0
              clear x0 x1 x2 x3 xG xb b1
              cases sm
              · have hcv := HCD.out hpc rfl
                have HCV : Hid (∀ p, cv p = pxF (encE (invK l') (invV m') (linV l m p.f0 p.f1 p.f2) p.f3)) := fun p => congrFun hcv p
                clear hcv HCS HCD HCL HEQ
                go_wp2_with (refine wpList_load_row rfl 25 (.tmp 4) rfl (B + 1) rfl 25 (profC nm' (.slice A' l'.length c') m') (0, 0) _ g1_ Try.underlying25 rfl (profC_info _ _ _) ?_)
                refine (HN.out _ gb_).mono ?_; rintro e w32 ⟨A3, c3, rfl, hK3, b1⟩
                have k0_ := g0_.kept b1 g0_.lt
                have k1_ := g1_.kept b1 g1_.lt
                have k2_ := g2_.kept b1 g2_.lt
                have k3_ := g3_.kept b1 g3_.lt
                have k4_ := g4_.kept b1 g4_.lt
                have kb_ := gb_.trans (b1.mono (Nat.le_trans (Nat.le_of_eq HB.out.symm) gb_.size))
                have hb3 : B + 1 + 1 + 1 + 1 ≤ w31.heap.size := by have := g3_.lt; omega
                have HR__2 : Hid (∀  w', Below w32.heap.size w32 w' → Kd.R k35 35 w' (B + 1 + 1 + 1 + 1) (fun _ => True) (.slice A2 px.length c2) px) := fun  w' h => HR__1.out  w' (b1.trans (h.mono b1.size))
                clear HR__1
                clear g0_ g1_ g2_ g3_ g4_ gb_ b1
                have HK__0 : Hid (∀  w', Below w32.heap.size w32 w' → Kd.R k72 72 w' (B + 1 + 1 + 1 + 1) (fun _ => True) (.slice A3 (invK l').length c3) (invK l')) := fun w' h => Kd.R_below (Kd.R_lower hK3 hb3) h
                clear hK3 hb3
                have H3 : holdsC (w32.alloc (.cells #[.int .i64 0, .int .i64 0, .int .i64 0, .int .i64 0, .int .i64 0, .int .i64 0, .int .i64 0, .int .i64 0, .int .i64 0, .slice none 0 0] 59)) w32.heap.size 59 #[.int .i64 0, .int .i64 0, .int .i64 0, .int .i64 0, .int .i64 0, .int .i64 0, .int .i64 0, .int .i64 0, .int .i64 0, .slice none 0 0] := heap_alloc_new _ _
                have u0_ := (k0_.alloc (.cells #[.int .i64 0, .int .i64 0, .int .i64 0, .int .i64 0, .int .i64 0, .int .i64 0, .int .i64 0, .int .i64 0, .int .i64 0, .slice none 0 0] 59)).setRowOther (g' := w32.heap.size) (by have := k0_.lt; omega) (encC (invV m') (.slice A3 (invK l').length c3))
                have nu0_ : B < w32.heap.size := k0_.lt
                have u1_ := (k1_.alloc (.cells #[.int .i64 0, .int .i64 0, .int .i64 0, .int .i64 0, .int .i64 0, .int .i64 0, .int .i64 0, .int .i64 0, .int .i64 0, .slice none 0 0] 59)).setRowOther (g' := w32.heap.size) (by have := k1_.lt; omega) (encC (invV m') (.slice A3 (invK l').length c3))
                have nu1_ : (B + 1) < w32.heap.size := k1_.lt
                have u2_ := (k2_.alloc (.cells #[.int .i64 0, .int .i64 0, .int .i64 0, .int .i64 0, .int .i64 0, .int .i64 0, .int .i64 0, .int .i64 0, .int .i64 0, .slice none 0 0] 59)).setRowOther (g' := w32.heap.size) (by have := k2_.lt; omega) (encC (invV m') (.slice A3 (invK l').length c3))
                have nu2_ : (B + 1 + 1) < w32.heap.size := k2_.lt
                have u3_ := (k3_.alloc (.cells #[.int .i64 0, .int .i64 0, .int .i64 0, .int .i64 0, .int .i64 0, .int .i64 0, .int .i64 0, .int .i64 0, .int .i64 0, .slice none 0 0] 59)).setRowOther (g' := w32.heap.size) (by have := k3_.lt; omega) (encC (invV m') (.slice A3 (invK l').length c3))
                have nu3_ : (B + 1 + 1 + 1) < w32.heap.size := k3_.lt
                have u4_ := (k4_.alloc (.cells #[.int .i64 0, .int .i64 0, .int .i64 0, .int .i64 0, .int .i64 0, .int .i64 0, .int .i64 0, .int .i64 0, .int .i64 0, .slice none 0 0] 59)).setRowOther (g' := w32.heap.size) (by have := k4_.lt; omega) (encC (invV m') (.slice A3 (invK l').length c3))
                have nu4_ : G < w32.heap.size := k4_.lt
                have u5_ := holdsC_row H3 (encC (invV m') (.slice A3 (invK l').length c3))
                have nq2 : B ≤ w32.heap.size := by rw [← HB.out]; exact kb_.size
                have ub_ := below_setRow (kb_.alloc nq2 (.cells #[.int .i64 0, .int .i64 0, .int .i64 0, .int .i64 0, .int .i64 0, .int .i64 0, .int .i64 0, .int .i64 0, .int .i64 0, .slice none 0 0] 59)) nq2 (encC (invV m') (.slice A3 (invK l').length c3))
                have bb := below_setRow ((Below.refl w32.heap.size w32).alloc (Nat.le_refl _) (.cells #[.int .i64 0, .int .i64 0, .int .i64 0, .int .i64 0, .int .i64 0, .int .i64 0, .int .i64 0, .int .i64 0, .int .i64 0, .slice none 0 0] 59)) (Nat.le_refl _) (encC (invV m') (.slice A3 (invK l').length c3))
                have HR__3 : Hid (∀  w', Below ((w32.alloc (.cells #[.int .i64 0, .int .i64 0, .int .i64 0, .int .i64 0, .int .i64 0, .int .i64 0, .int .i64 0, .int .i64 0, .int .i64 0, .slice none 0 0] 59)).setRow w32.heap.size (encC (invV m') (.slice A3 (invK l').length c3))).heap.size ((w32.alloc (.cells #[.int .i64 0, .int .i64 0, .int .i64 0, .int .i64 0, .int .i64 0, .int .i64 0, .int .i64 0, .int .i64 0, .int .i64 0, .slice none 0 0] 59)).setRow w32.heap.size (encC (invV m') (.slice A3 (invK l').length c3))) w' → Kd.R k35 35 w' (B + 1 + 1 + 1 + 1) (fun _ => True) (.slice A2 px.length c2) px) := fun  w' h => HR__2.out  w' (bb.trans (h.mono bb.size))
                clear HR__2
                have HK__1 : Hid (∀  w', Below ((w32.alloc (.cells #[.int .i64 0, .int .i64 0, .int .i64 0, .int .i64 0, .int .i64 0, .int .i64 0, .int .i64 0, .int .i64 0, .int .i64 0, .slice none 0 0] 59)).setRow w32.heap.size (encC (invV m') (.slice A3 (invK l').length c3))).heap.size ((w32.alloc (.cells #[.int .i64 0, .int .i64 0, .int .i64 0, .int .i64 0, .int .i64 0, .int .i64 0, .int .i64 0, .int .i64 0, .int .i64 0, .slice none 0 0] 59)).setRow w32.heap.size (encC (invV m') (.slice A3 (invK l').length c3))) w' → Kd.R k72 72 w' (B + 1 + 1 + 1 + 1) (fun _ => True) (.slice A3 (invK l').length c3) (invK l')) := fun  w' h => HK__0.out  w' (bb.trans (h.mono bb.size))
                clear HK__0
                clear bb
                go_upto_region 15 with (first | (refine wpList_store_row rfl 59 (.tmp 12) (.tmp 86) rfl _ (encC (invV m') (.slice A3 (invK l').length c3)) rfl rfl 59 _ H3 (encC_info _ _) (by rw [encC_size]; rfl) (encC_one _ _ rfl) ?_))
                clear H3 k0_ k1_ k2_ k3_ k4_ kb_
                generalize (w32.alloc (.cells #[.int .i64 0, .int .i64 0, .int .i64 0, .int .i64 0, .int .i64 0, .int .i64 0, .int .i64 0, .int .i64 0, .int .i64 0, .slice none 0 0] 59)).setRow w32.heap.size (encC (invV m') (.slice A3 (invK l').length c3)) = w33 at *
                generalize w32.heap.size = q2 at *
                have HX0 := Lib.hid (HR__3.out _ (Below.refl _ _))
                have HKK0 := Lib.hid (HK__1.out _ (Below.refl _ _))
                clear HR__3 HK__1
                skip
                have c2_ := u4_.cell 2 (.slice A2 px.length c2) rfl
                go_wp2_with fail
                go_loopw [13, 14, 90] (fun _ _ v90 wr => ∃ i : Nat, i ≤ px.length ∧ v90 = .int .i64 i ∧ Hid (Kd.R k35 35 wr (B + 1 + 1 + 1 + 1) (fun _ => True) (.slice A2 px.length c2) (curP cv px i)) ∧ Hid (Kd.R k72 72 wr (B + 1 + 1 + 1 + 1) (fun _ => True) (.slice A3 (invK l').length c3) (invK l')) ∧ holdsC wr G 28 (imgC W H (.slice A2 px.length c2)) ∧ holdsC wr q2 59 (encC (invV m') (.slice A3 (invK l').length c3)) ∧ holdsC wr B 25 (profC nm (.slice A l.length c) m) ∧ holdsC wr (B + 1) 25 (profC nm' (.slice A' l'.length c') m') ∧ holdsC wr (B + 1 + 1) 28 (imgC W H (.slice Ax px.length cx)) ∧ holdsC wr (B + 1 + 1 + 1) 28 #[.int .i64 0, .int .i64 0, .slice none 0 0] ∧ Below B w wr) (fun _ _ v _ => px.length - (intOf v).toNat)
                case atStart => exact ⟨0, by omega, rfl, Lib.hid (by rw [curP_0]; exact HX0.out), HKK0, u4_, u5_, u0_, u1_, u2_, u3_, ub_⟩
                case round =>
                  clear HX0 HKK0 c2_ u0_ u1_ u2_ u3_ u4_ u5_ ub_
                  obtain ⟨i, hi, rfl, HXR, HKR, xG, xE, x0, x1, x2, x3, xb⟩ := hrel
                  obtain ⟨w40, hw40⟩ : ∃ w40 : World, w40 = wr := ⟨_, rfl⟩
                  subst hw40
                  by_cases hil : i < px.length
                  · have hd : decide ((i : Int) < (px.length : Int)) = true := decide_eq_true (by omega)
                    obtain ⟨g, cap, hv, hgb, hgl, cells, hcells⟩ := Kd.R_form HXR.out (by rw [curP_len]; omega)
                    obtain ⟨ad, e5, y0, y1, y2, y3⟩ := at_T35 (Kd.R_reads' HXR.out).2.2 (i : Int) (by omega) (by rw [curP_len]; omega)
                    subst e5
                    injection hv with hv1 hv2 hv3
                    clear hv2 hv3
                    injection hv1 with had
                    have HAD := Lib.hid had
                    simp only [Int.toNat_natCast] at y0 y1 y2 y3
                    rw [curP_get cv px i hil] at y0 y1 y2 y3
                    have HSET : Hid ((curP cv px i).set i (cv (rd_T35 px (i : Int))) = curP cv px (i + 1)) := curP_set cv px i hil
                    have nG : Hid (G ≠ g) := own_apart xG hcells (by decide)
                    have nE : Hid (q2 ≠ g) := own_apart xE hcells (by decide)
                    have HGB := Lib.hid hgb
                    clear hcells hgl had hgb
                    have p1 : (0 ≤ (i : Int)) = True := eq_true (by omega)
                    have p2 : ((i : Int) < (px.length : Int)) = True := eq_true (by omega)
                    generalize rd_T35 px (i : Int) = p at *
                    have HL1 := Lib.hid (fun w' hb => HL.out p w' hb)
                    have HCP := HCV.out p
                    rw [HCP] at HSET
                    clear HCP
                    have HEN : Hid (∀ w', Kd.R k72 72 w' (B + 1 + 1 + 1 + 1) (fun _ => True) (.slice A3 (invK l').length c3) (invK l') → Calls Try.prog 36 #[.agg (encC (invV m') (.slice A3 (invK l').length c3)), .agg (arrN 3 (linV l m p.f0 p.f1 p.f2)), .int .i64 p.f3] w' fun e w'' => e = .returned (.agg (pixF (encE (invK l') (invV m') (linV l m p.f0 p.f1 p.f2) p.f3))) ∧ Below w'.heap.size w' w'') := fun w' hR => encode_any' A3 c3 (invK l') (invV m') (linV l m p.f0 p.f1 p.f2) p.f3 w' (R_C hR).2 (R_C hR).1
                    generalize encE (invK l') (invV m') (linV l m p.f0 p.f1 p.f2) p.f3 = ev at *
                    generalize linV l m p.f0 p.f1 p.f2 = lv at *
                    generalize hln : curP cv px (i + 1) = ln at *
                    have HLNE := Lib.hid hln
                    clear hln
                    have hlc := curP_len cv px i
                    generalize curP cv px i = li at *
                    have HR__0 : Hid (∀  w', Below w40.heap.size w40 w' → Kd.R k35 35 w' (B + 1 + 1 + 1 + 1) (fun _ => True) (.slice (some ad) px.length c2) li) := fun w' h => Kd.R_below HXR.out h
                    have HK__0 : Hid (∀  w', Below w40.heap.size w40 w' → Kd.R k72 72 w' (B + 1 + 1 + 1 + 1) (fun _ => True) (.slice A3 (invK l').length c3) (invK l')) := fun w' h => Kd.R_below HKR.out h
                    clear HXR HKR
                    have H3 : holdsC (w40.alloc (.cells #[.int .i64 0, .int .i64 0, .int .i64 0, .int .i64 0] 35)) w40.heap.size 35 #[.int .i64 0, .int .i64 0, .int .i64 0, .int .i64 0] := heap_alloc_new _ _
                    have g0_ := (x0.alloc (.cells #[.int .i64 0, .int .i64 0, .int .i64 0, .int .i64 0] 35)).setRowOther (g' := w40.heap.size) (by have := x0.lt; omega) (pixC p.f0 p.f1 p.f2 p.f3)
                    have ng0_ : B < w40.heap.size := x0.lt
                    have g1_ := (x1.alloc (.cells #[.int .i64 0, .int .i64 0, .int .i64 0, .int .i64 0] 35)).setRowOther (g' := w40.heap.size) (by have := x1.lt; omega) (pixC p.f0 p.f1 p.f2 p.f3)
                    have ng1_ : (B + 1) < w40.heap.size := x1.lt
                    have g2_ := (x2.alloc (.cells #[.int .i64 0, .int .i64 0, .int .i64 0, .int .i64 0] 35)).setRowOther (g' := w40.heap.size) (by have := x2.lt; omega) (pixC p.f0 p.f1 p.f2 p.f3)
                    have ng2_ : (B + 1 + 1) < w40.heap.size := x2.lt
                    have g3_ := (x3.alloc (.cells #[.int .i64 0, .int .i64 0, .int .i64 0, .int .i64 0] 35)).setRowOther (g' := w40.heap.size) (by have := x3.lt; omega) (pixC p.f0 p.f1 p.f2 p.f3)
                    have ng3_ : (B + 1 + 1 + 1) < w40.heap.size := x3.lt
                    have g4_ := (xG.alloc (.cells #[.int .i64 0, .int .i64 0, .int .i64 0, .int .i64 0] 35)).setRowOther (g' := w40.heap.size) (by have := xG.lt; omega) (pixC p.f0 p.f1 p.f2 p.f3)
                    have ng4_ : G < w40.heap.size := xG.lt
                    have g5_ := (xE.alloc (.cells #[.int .i64 0, .int .i64 0, .int .i64 0, .int .i64 0] 35)).setRowOther (g' := w40.heap.size) (by have := xE.lt; omega) (pixC p.f0 p.f1 p.f2 p.f3)
                    have ng5_ : q2 < w40.heap.size := xE.lt
                    have g6_ := holdsC_row H3 (pixC p.f0 p.f1 p.f2 p.f3)
                    have nq3 : B ≤ w40.heap.size := by rw [← HB.out]; exact xb.size
                    have gb_ := below_setRow (xb.alloc nq3 (.cells #[.int .i64 0, .int .i64 0, .int .i64 0, .int .i64 0] 35)) nq3 (pixC p.f0 p.f1 p.f2 p.f3)
                    have bb := below_setRow ((Below.refl w40.heap.size w40).alloc (Nat.le_refl _) (.cells #[.int .i64 0, .int .i64 0, .int .i64 0, .int .i64 0] 35)) (Nat.le_refl _) (pixC p.f0 p.f1 p.f2 p.f3)
                    have HR__1 : Hid (∀  w', Below ((w40.alloc (.cells #[.int .i64 0, .int .i64 0, .int .i64 0, .int .i64 0] 35)).setRow w40.heap.size (pixC p.f0 p.f1 p.f2 p.f3)).heap.size ((w40.alloc (.cells #[.int .i64 0, .int .i64 0, .int .i64 0, .int .i64 0] 35)).setRow w40.heap.size (pixC p.f0 p.f1 p.f2 p.f3)) w' → Kd.R k35 35 w' (B + 1 + 1 + 1 + 1) (fun _ => True) (.slice (some ad) px.length c2) li) := fun  w' h => HR__0.out  w' (bb.trans (h.mono bb.size))
                    clear HR__0
                    have HK__1 : Hid (∀  w', Below ((w40.alloc (.cells #[.int .i64 0, .int .i64 0, .int .i64 0, .int .i64 0] 35)).setRow w40.heap.size (pixC p.f0 p.f1 p.f2 p.f3)).heap.size ((w40.alloc (.cells #[.int .i64 0, .int .i64 0, .int .i64 0, .int .i64 0] 35)).setRow w40.heap.size (pixC p.f0 p.f1 p.f2 p.f3)) w' → Kd.R k72 72 w' (B + 1 + 1 + 1 + 1) (fun _ => True) (.slice A3 (invK l').length c3) (invK l')) := fun  w' h => HK__0.out  w' (bb.trans (h.mono bb.size))
                    clear HK__0
                    clear bb
                    go_upto_region 18 with (first | (refine wpList_store_row rfl 35 (.tmp 14) (.tmp 94) rfl _ (pixC p.f0 p.f1 p.f2 p.f3) rfl rfl 35 _ H3 (by kernel_rfl) rfl (by kernel_rfl) ?_))
                    clear H3 x0 x1 x2 x3 xG xE xb
                    generalize (w40.alloc (.cells #[.int .i64 0, .int .i64 0, .int .i64 0, .int .i64 0] 35)).setRow w40.heap.size (pixC p.f0 p.f1 p.f2 p.f3) = w41 at *
                    generalize w40.heap.size = q3 at *
                    clear y0 y1 y2 y3
                    have u0 := g0_
                    have u1 := g1_
                    have u2 := g2_
                    have u3 := g3_
                    have u4 := g4_
                    have u5 := g5_
                    have u6 := g6_
                    have HK := Lib.hid gb_
                    clear g0_ g1_ g2_ g3_ g4_ g5_ g6_ gb_
                    refine start_ (n := 12) (S := fun w' => holdsC w' G 28 (imgC W H (.slice (some ad) px.length c2)) ∧ holdsC w' q2 59 (encC (invV m') (.slice A3 (invK l').length c3)) ∧ holdsC w' q3 35 (pixC p.f0 p.f1 p.f2 p.f3) ∧ holdsC w' B 25 (profC nm (.slice A l.length c) m) ∧ holdsC w' (B + 1) 25 (profC nm' (.slice A' l'.length c') m') ∧ holdsC w' (B + 1 + 1) 28 (imgC W H (.slice Ax px.length cx)) ∧ holdsC w' (B + 1 + 1 + 1) 28 #[.int .i64 0, .int .i64 0, .slice none 0 0]) (ds := [11]) #[false, false, false, false, false, false, false, false, false, false, false, false] (by kernel_rfl) rfl rfl ⟨u4, u5, u6, u0, u1, u2, u3⟩ (fun hHeld => ?_)
                    have HK := Lib.hid HK.out.drew
                    have HR__2 : Hid (∀  w', Below w41.drew.heap.size w41.drew w' → Kd.R k35 35 w' (B + 1 + 1 + 1 + 1) (fun _ => True) (.slice (some ad) px.length c2) li) := fun  w' h => HR__1.out  w' ((Below.refl _ _).drew.trans h)
                    clear HR__1
                    have HK__2 : Hid (∀  w', Below w41.drew.heap.size w41.drew w' → Kd.R k72 72 w' (B + 1 + 1 + 1 + 1) (fun _ => True) (.slice A3 (invK l').length c3) (invK l')) := fun  w' h => HK__1.out  w' ((Below.refl _ _).drew.trans h)
                    clear HK__1
                    refine pure_ (i := 0) (N := some 95) (v := ?_) (a' := ?_) #[true, false, false, false, false, false, false, false, false, false, false, false] rfl rfl (by kernel_rfl) (fun _ _ _ h => h) (Or.inl ⟨by rfl, ?_⟩) ?_ ?_
                    rotate_left
                    · intro w'
                      go_simp
                      with_reducible rfl
                    rotate_left
                    · simp only [Act.put, List.setIfInBounds_toArray, List.set_cons_zero, List.set_cons_succ]
                      rfl
                    refine take_ (i := 1) (N := some 96) (v := ?_) (a' := ?_) #[true, true, false, false, false, false, false, false, false, false, false, false] rfl rfl (by kernel_rfl) (fun _ _ _ h => h) (Or.inl ⟨by rfl, ?_⟩) hHeld ?_ ?_
                    rotate_left
                    · rintro w' ⟨s0, s1, s2, s3, s4, s5, s6⟩
                      have c1_ := s0.cell 2 (.slice (some ad) px.length c2) rfl
                      go_simp
                      with_reducible rfl
                    rotate_left
                    · simp only [Act.put, List.setIfInBounds_toArray, List.set_cons_zero, List.set_cons_succ]
                      rfl
                    refine pure_ (i := 2) (N := some 97) (v := ?_) (a' := ?_) #[true, true, true, false, false, false, false, false, false, false, false, false] rfl rfl (by kernel_rfl) (fun _ _ _ h => h) (Or.inl ⟨by rfl, ?_⟩) ?_ ?_
                    rotate_left
                    · intro w'
                      go_simp
                      with_reducible rfl
                    rotate_left
                    · simp only [Act.put, List.setIfInBounds_toArray, List.set_cons_zero, List.set_cons_succ]
                      rfl
                    refine take_ (i := 3) (N := some 98) (v := .agg (encC (invV m') (.slice A3 (invK l').length c3))) (a' := ?_) #[true, true, true, true, false, false, false, false, false, false, false, false] rfl rfl (by kernel_rfl) (fun _ _ _ h => h) (Or.inl ⟨by rfl, fun w' s => exec_loadC rfl rfl s.2.1 rfl Try.underlying59 (encC_info _ _)⟩) hHeld ?_ ?_
                    rotate_left
                    · simp only [Act.put, List.setIfInBounds_toArray, List.set_cons_zero, List.set_cons_succ]
                      rfl
                    refine take_ (i := 4) (N := some 99) (v := .agg (profC nm (.slice A l.length c) m)) (a' := ?_) #[true, true, true, true, true, false, false, false, false, false, false, false] rfl rfl (by kernel_rfl) (fun _ _ _ h => h) (Or.inl ⟨by rfl, fun w' s => exec_loadC rfl rfl s.2.2.2.1 rfl Try.underlying25 (profC_info _ _ _)⟩) hHeld ?_ ?_
                    rotate_left
                    · simp only [Act.put, List.setIfInBounds_toArray, List.set_cons_zero, List.set_cons_succ]
                      rfl
                    refine take_ (i := 5) (N := some 100) (v := .agg (pixC p.f0 p.f1 p.f2 p.f3)) (a' := ?_) #[true, true, true, true, true, true, false, false, false, false, false, false] rfl rfl (by kernel_rfl) (fun _ _ _ h => h) (Or.inl ⟨by rfl, fun w' s => exec_loadC rfl rfl s.2.2.1 rfl Try.underlying35 (by kernel_rfl)⟩) hHeld ?_ ?_
                    rotate_left
                    · simp only [Act.put, List.setIfInBounds_toArray, List.set_cons_zero, List.set_cons_succ]
                      rfl
                    refine pure_ (i := 7) (N := some 102) (v := ?_) (a' := ?_) #[true, true, true, true, true, true, false, true, false, false, false, false] rfl rfl (by kernel_rfl) (fun _ _ _ h => h) (Or.inl ⟨by rfl, ?_⟩) ?_ ?_
                    rotate_left
                    · intro w'
                      go_simp
                      with_reducible rfl
                    rotate_left
                    · simp only [Act.put, List.setIfInBounds_toArray, List.set_cons_zero, List.set_cons_succ]
                      rfl
                    refine take_ (i := 8) (N := some 103) (v := ?_) (a' := ?_) #[true, true, true, true, true, true, false, true, true, false, false, false] rfl rfl (by kernel_rfl) (fun _ _ _ h => h) (Or.inl ⟨by rfl, ?_⟩) hHeld ?_ ?_
                    rotate_left
                    · rintro w' ⟨s0, s1, s2, s3, s4, s5, s6⟩
                      have c1_ := s2.cell 3 (.int .i64 p.f3) rfl
                      go_simp
                      with_reducible rfl
                    rotate_left
                    · simp only [Act.put, List.setIfInBounds_toArray, List.set_cons_zero, List.set_cons_succ]
                      rfl
                    refine one_ (i := 6) (N := some 101) #[true, true, true, true, true, true, true, true, true, false, false, false] rfl rfl (by kernel_rfl) (by decide) (fun K hK => ?_)
                    refine goes_ Try.func37 (by kernel_rfl) rfl #[.agg (profC nm (.slice A l.length c) m), .agg (pixC p.f0 p.f1 p.f2 p.f3)] (by rfl) rfl rfl (by simp only [List.map_toArray, List.map_cons, List.map_nil]; rfl) ?_
                    refine (HL1.out _ HK.out).mono ?_
                    rintro e W1 ⟨rfl, b1⟩
                    refine ⟨_, rfl, ?_⟩
                    have s0 := hHeld.1.kept b1 hHeld.1.lt
                    have s1 := hHeld.2.1.kept b1 hHeld.2.1.lt
                    have s2 := hHeld.2.2.1.kept b1 hHeld.2.2.1.lt
                    have s3 := hHeld.2.2.2.1.kept b1 hHeld.2.2.2.1.lt
                    have s4 := hHeld.2.2.2.2.1.kept b1 hHeld.2.2.2.2.1.lt
                    have s5 := hHeld.2.2.2.2.2.1.kept b1 hHeld.2.2.2.2.2.1.lt
                    have s6 := hHeld.2.2.2.2.2.2.kept b1 hHeld.2.2.2.2.2.2.lt
                    have HK := Lib.hid (HK.out.trans (b1.mono (Nat.le_trans (Nat.le_of_eq HB.out.symm) HK.out.size)))
                    have HR__3 : Hid (∀  w', Below W1.heap.size W1 w' → Kd.R k35 35 w' (B + 1 + 1 + 1 + 1) (fun _ => True) (.slice (some ad) px.length c2) li) := fun  w' h => HR__2.out  w' (b1.trans (h.mono b1.size))
                    clear HR__2
                    have HK__3 : Hid (∀  w', Below W1.heap.size W1 w' → Kd.R k72 72 w' (B + 1 + 1 + 1 + 1) (fun _ => True) (.slice A3 (invK l').length c3) (invK l')) := fun  w' h => HK__2.out  w' (b1.trans (h.mono b1.size))
                    clear HK__2
                    refine hK.out _ _ ⟨s0, s1, s2, s3, s4, s5, s6⟩ (fun hHeld => ?_)
                    clear hK K b1
                    refine norm_ (a' := ?_) ?_ ?_
                    rotate_left
                    · show Act.put _ (some 101) _ = _
                      simp only [Act.put, List.setIfInBounds_toArray, List.set_cons_zero, List.set_cons_succ]
                      rfl
                    refine one_ (i := 9) (N := some 104) #[true, true, true, true, true, true, true, true, true, true, false, false] rfl rfl (by kernel_rfl) (by decide) (fun K hK => ?_)
                    refine goes_ Try.func36 (by kernel_rfl) rfl #[.agg (encC (invV m') (.slice A3 (invK l').length c3)), .agg (arrN 3 lv), .int .i64 p.f3] (by rfl) rfl rfl (by simp only [List.map_toArray, List.map_cons, List.map_nil]; rfl) ?_
                    refine (HEN.out _ (HK__3.out _ (Below.refl _ _))).mono ?_
                    rintro e W1 ⟨rfl, b1⟩
                    refine ⟨_, rfl, ?_⟩
                    have s0 := hHeld.1.kept b1 hHeld.1.lt
                    have s1 := hHeld.2.1.kept b1 hHeld.2.1.lt
                    have s2 := hHeld.2.2.1.kept b1 hHeld.2.2.1.lt
                    have s3 := hHeld.2.2.2.1.kept b1 hHeld.2.2.2.1.lt
                    have s4 := hHeld.2.2.2.2.1.kept b1 hHeld.2.2.2.2.1.lt
                    have s5 := hHeld.2.2.2.2.2.1.kept b1 hHeld.2.2.2.2.2.1.lt
                    have s6 := hHeld.2.2.2.2.2.2.kept b1 hHeld.2.2.2.2.2.2.lt
                    have HK := Lib.hid (HK.out.trans (b1.mono (Nat.le_trans (Nat.le_of_eq HB.out.symm) HK.out.size)))
                    have HR__4 : Hid (∀  w', Below W1.heap.size W1 w' → Kd.R k35 35 w' (B + 1 + 1 + 1 + 1) (fun _ => True) (.slice (some ad) px.length c2) li) := fun  w' h => HR__3.out  w' (b1.trans (h.mono b1.size))
                    clear HR__3
                    have HK__4 : Hid (∀  w', Below W1.heap.size W1 w' → Kd.R k72 72 w' (B + 1 + 1 + 1 + 1) (fun _ => True) (.slice A3 (invK l').length c3) (invK l')) := fun  w' h => HK__3.out  w' (b1.trans (h.mono b1.size))
                    clear HK__3
                    refine hK.out _ _ ⟨s0, s1, s2, s3, s4, s5, s6⟩ (fun hHeld => ?_)
                    clear hK K b1
                    refine norm_ (a' := ?_) ?_ ?_
                    rotate_left
                    · show Act.put _ (some 104) _ = _
                      simp only [Act.put, List.setIfInBounds_toArray, List.set_cons_zero, List.set_cons_succ]
                      rfl
                    refine pure_ (i := 10) (N := some 105) (v := ?_) (a' := ?_) #[true, true, true, true, true, true, true, true, true, true, true, false] rfl rfl (by kernel_rfl) (fun _ _ _ h => h) (Or.inl ⟨by rfl, ?_⟩) ?_ ?_
                    rotate_left
                    · intro w'
                      go_simp
                      with_reducible rfl
                    rotate_left
                    · simp only [Act.put, List.setIfInBounds_toArray, List.set_cons_zero, List.set_cons_succ]
                      rfl
                    refine last_ (i := 11) (N := none) #[true, true, true, true, true, true, true, true, true, true, true, true] rfl rfl (by kernel_rfl) (by decide) (fun K hK => ?_)
                    have HXN := HR__4.out _ (Below.refl _ _)
                    have HKN := HK__4.out _ (Below.refl _ _)
                    have hgb := HGB.out
                    obtain ⟨hRV, hgr⟩ := storeRX_R (f := ev) HAD.out HXN hil
                    have HKV := Lib.hid (R_knots HKN HAD.out HXN hgr)
                    rw [HSET.out] at hRV
                    replace hRV := Lib.hid hRV
                    refine skip_ (by rfl) rfl (storeRX_run (g := g) (i := i) (f := ev) rfl rfl rfl HAD.out HXN hil) ?_
                    have s0 := holdsC_grown hHeld.1 hgr nG.out
                    have s1 := holdsC_grown hHeld.2.1 hgr nE.out
                    have s3 := holdsC_grown hHeld.2.2.2.1 hgr (by omega)
                    have s4 := holdsC_grown hHeld.2.2.2.2.1 hgr (by omega)
                    have s5 := holdsC_grown hHeld.2.2.2.2.2.1 hgr (by omega)
                    have s6 := holdsC_grown hHeld.2.2.2.2.2.2 hgr (by omega)
                    have HK := Lib.hid (below_grown HK.out hgr (by omega) (by rw [← HB.out]; exact HK.out.size))
                    refine hK.out _ _ ?_
                    clear hK K
                    refine done_ (by kernel_rfl) ?_
                    skip
                    go_wp2_with fail
                    go_roundw
                    case rel => exact ⟨i + 1, by omega, by go_num, (by rw [HLNE.out]; exact hRV), HKV, s0, s1, s3, s4, s5, s6, HK.out⟩
                    case measure => simp [intOf]; omega
                  · have hd : decide ((i : Int) < (px.length : Int)) = false := decide_eq_false (by omega)
                    obtain rfl : i = px.length := by omega
                    have HXM := HXR.out
                    rw [curP_n] at HXM
                    clear HXR
                    go_wp2_with (first
                      | (refine wpList_load_row rfl 28 (.tmp 11) rfl G rfl 28 (imgC W H (.slice A2 px.length c2)) (0, 0) _ xG Try.underlying28 rfl (by kernel_rfl) ?_)
                      | (refine wpList_store_row rfl 28 (.tmp 6) (.tmp 107) rfl (B + 1 + 1 + 1) (imgC W H (.slice A2 px.length c2)) rfl rfl 28 _ x3 (by kernel_rfl) rfl (by kernel_rfl) ?_))
                    refine bodyPost_ret (v := .tuple #[.agg (imgC W H (.slice A2 px.length c2)), .int .i64 0]) (results_row_tmp rfl _ _ rfl rfl (holdsC_row x3 _) rfl Try.underlying28 (by kernel_rfl)) rfl ?_
                    have hC := R_CX (R_setRowX HXM (g := B + 1 + 1 + 1) (by omega) (imgC W H (.slice A2 px.length c2)))
                    have hq : imgL ie (px.map cv) = px.map cv := by
                      unfold imgL
                      rw [if_pos hE.out]
                    have hq2 : (px.map cv).length = px.length := by simp
                    exact ⟨A2, c2, by rw [hq, hq2, hE.out]; rfl, by rw [hq]; exact hC.2, by rw [hq]; exact hC.1, by rw [HB.out]; exact below_setRow xb (by omega) _⟩
              · have hm := HCS.out hpc rfl hok
                go_wp2_with (first
                  | (refine wpList_load_row rfl 28 (.tmp 11) rfl G rfl 28 (imgC W H (.slice A2 px.length c2)) (0, 0) _ g4_ Try.underlying28 rfl (by kernel_rfl) ?_)
                  | (refine wpList_store_row rfl 28 (.tmp 6) (.tmp 107) rfl (B + 1 + 1 + 1) (imgC W H (.slice A2 px.length c2)) rfl rfl 28 _ g3_ (by kernel_rfl) rfl (by kernel_rfl) ?_))
                refine bodyPost_ret (v := .tuple #[.agg (imgC W H (.slice A2 px.length c2)), .int .i64 0]) (results_row_tmp rfl _ _ rfl rfl (holdsC_row g3_ _) rfl Try.underlying28 (by kernel_rfl)) rfl ?_
                have hC := R_CX (R_setRowX (HR__1.out _ (Below.refl _ _)) (g := B + 1 + 1 + 1) (by omega) (imgC W H (.slice A2 px.length c2)))
                have hq : imgL ie (px.map cv) = px := by
                  unfold imgL
                  rw [if_pos hE.out, hm]
                have hq2 : px.length = px.length := rfl
                exact ⟨A2, c2, by rw [hq, hq2, hE.out]; rfl, by rw [hq]; exact hC.2, by rw [hq]; exact hC.1, by rw [HB.out]; exact below_setRow gb_ (by omega) _⟩
      · have hE : ie = 15 := by rw [HE1.out, hbb]; rfl
        go_wp2_with (first
          | (refine wpList_build_as rfl 28 _ rfl #[.int .i64 0, .int .i64 0, .slice none 0 0] (by kernel_rfl) ?_)
          | (refine wpList_store_row rfl 28 (.tmp 6) (.tmp 60) rfl (B + 1 + 1 + 1) #[.int .i64 0, .int .i64 0, .slice none 0 0] rfl rfl 28 _ h3 (by kernel_rfl) rfl (by kernel_rfl) ?_))
        refine bodyPost_ret (v := .tuple #[.agg #[.int .i64 0, .int .i64 0, .slice none 0 0], .int .i64 15]) (results_row_tmp rfl _ _ rfl rfl (holdsC_row h3 _) rfl Try.underlying28 (by kernel_rfl)) rfl ?_
        obtain ⟨q1, q2⟩ := img_err (E := ie) (by rw [hE]; decide) W H (px.map cv)
        exact ⟨none, 0, by rw [q1, hE], by rw [q2]; exact Kd.C_nil _ _, by rw [q2]; exact Nat.le_refl _, by rw [HB.out]; exact below_setRow hb (by omega) _⟩
  · have hne : (pc == 0) = false := by simpa using hpc
    go_wp2_with (first
      | (refine wpList_build_as rfl 28 _ rfl #[.int .i64 0, .int .i64 0, .slice none 0 0] (by kernel_rfl) ?_)
      | (refine wpList_store_row rfl 28 (.tmp 6) (.tmp 20) rfl (B + 1 + 1 + 1) #[.int .i64 0, .int .i64 0, .slice none 0 0] rfl rfl 28 _ g3_ (by kernel_rfl) rfl (by kernel_rfl) ?_))
    refine bodyPost_ret (v := .tuple #[.agg #[.int .i64 0, .int .i64 0, .slice none 0 0], .int .i64 pc]) (results_row_tmp rfl _ _ rfl rfl (holdsC_row g3_ _) rfl Try.underlying28 (by kernel_rfl)) rfl ?_
    have hE : ie = pc := by rw [HE.out, if_neg hpc]
    obtain ⟨q1, q2⟩ := img_err (E := ie) (by rw [hE]; exact hpc) W H (px.map cv)
    exact ⟨none, 0, by rw [q1, hE], by rw [q2]; exact Kd.C_nil _ _, by rw [q2]; exact Nat.le_refl _, by rw [HB.out]; exact below_setRow gb_ (by omega) _⟩
end Go.Proofs.Ytlpfepcmpccbeaa.Im
/-
  The reference's Image.
-/
namespace Go.Proofs.Ytlpfepcmpccbeaa.Im
open Go.RowKit Go.Proofs.Ytlpfepcmpccbeaa.Pf Go.Proofs.Ytlpfepcmpccbeaa.NM Go.Proofs.Ytlpfepcmpccbeaa.Cv Go.Proofs.Ytlpfepcmpccbeaa.Nm9 Go.Proofs.Ytlpfepcmpccbeaa.Mx Go.Proofs.Ytlpfepcmpccbeaa.PNum Go.Proofs.YtlpfepcmpccbeaaW.PrintWords Go.Proofs.YtlpfepcmpccbeaaW.PrintMore Go.Proofs.YtlpfepcmpccbeaaW.PrintLast
set_option linter.unusedVariables false
theorem freeC_ {w : World} {g t : Nat} {c : Array Value} (h : holdsC w g t c) (k : Nat) : w.frozen? ⟨g, k, none⟩ = false := blk_frozen h k
theorem setC_ {w : World} {g t : Nat} {c : Array Value} (h : holdsC w g t c) (k : Nat) (v : Value) : holdsC (w.setCell ⟨g, k, none⟩ v) g t (c.setIfInBounds k v) := blk_put h k v rfl
theorem pic_len {W H : Int} {l : List Px} (h : picC W H l = 0) : l.length ≤ 65536 := by
  refine badB_len (W := W) (H := H) ?_
  unfold picC at h
  cases hb : badB W H l.length
  · rfl
  · rw [hb, if_pos rfl] at h
    exact absurd h (by decide)
theorem map_step (f : Px → Px) (l : List Px) (i : Nat) (h : i < l.length) : (l.take i).map f ++ [f (rd_T35 l (i : Int))] = (l.take (i + 1)).map f := by
  rw [rdX l i h, List.take_succ_eq_append_getElem h, List.map_append]
  rfl
theorem But_R {e : Nat} {W : World} {base g j : Nat} {v u : Value} {xs : List Px} (h : Kd.R k35 e W base (fun _ => True) v xs) (hg : g < base) : Kd.R k35 e (W.setCell ⟨g, j, none⟩ u) base (fun _ => True) v xs := by
  refine Kd.R_mono (Kd.R_move (Kd.R_bound h) (fun k hk => ?_)) (fun _ hk => hk.1)
  have := hk.2.1
  exact Below.heap_setCell W ⟨g, j, none⟩ u k (by show k ≠ g; omega)
theorem imgC_set2 (W H : Int) (v u : Value) : (imgC W H v).setIfInBounds 2 u = imgC W H u := rfl
theorem R_setRowG {e G base : Nat} {W : World} {v : Value} {xs : List Px} (h : Kd.R k35 e W base (fun k => True ∧ k ≠ G) v xs) (cs : Array Value) : Kd.R k35 e (W.setRow G cs) base (fun _ => True) v xs := by
  refine Kd.R_mono (Kd.R_move h (fun k hk => ?_)) (fun _ _ => trivial)
  simp only [World.setRow]
  rw [Array.getElem?_modify, if_neg (fun h => hk.2 h.symm)]
set_option maxRecDepth 20000 in
set_option maxHeartbeats 8000000 in
theorem rImage_any (nm : ByteArray) (A : Option Addr) (c : Nat) (l : List Kn) (m : Nat → Int) (nm' : ByteArray) (A' : Option Addr) (c' : Nat) (l' : List Kn) (m' : Nat → Int) (W H : Int) (Ax : Option Addr) (cx : Nat) (px : List Px) (w : World) (hs : nm.size ≤ 140737488355232) (hl : l.length ≤ 140737488355232) (hr : Kd.C k72 w A l.length l) (hc : l.length ≤ c) (hs' : nm'.size ≤ 140737488355232) (hr' : Kd.C k72 w A' l'.length l') (hc' : l'.length ≤ c') (hx : Kd.C k35 w Ax px.length px) (hcx : px.length ≤ cx) :
    Calls Try.prog 11 #[.agg (profC nm (.slice A l.length c) m), .agg (profC nm' (.slice A' l'.length c') m'), .agg (imgC W H (.slice Ax px.length cx))] w fun e w' => ∃ A2 c2, e = .returned (.tuple #[.agg (imgC (imgW (imgE (bothC nm l m nm' l' m') W H px) W) (imgW (imgE (bothC nm l m nm' l' m') W H px) H) (.slice A2 (imgL (imgE (bothC nm l m nm' l' m') W H px) (px.map (cvP nm l m nm' l' m'))).length c2)), .int .i64 (imgE (bothC nm l m nm' l' m') W H px)]) ∧ Kd.C k35 w' A2 (imgL (imgE (bothC nm l m nm' l' m') W H px) (px.map (cvP nm l m nm' l' m'))).length (imgL (imgE (bothC nm l m nm' l' m') W H px) (px.map (cvP nm l m nm' l' m'))) ∧ (imgL (imgE (bothC nm l m nm' l' m') W H px) (px.map (cvP nm l m nm' l' m'))).length ≤ c2 ∧ Below w.heap.size w w' := by
  have HR0 : Hid (∀ w', Below w.heap.size w w' → Calls Try.prog 28 #[.agg (profC nm (.slice A l.length c) m), .agg (profC nm' (.slice A' l'.length c') m'), .agg #[.int .i64 0, .int .i64 0, .int .i64 0, .int .i64 0]] w' fun e w'' => e = .returned (.tuple #[.agg (pixF (convP nm l m nm' l' m' 0 0 0 0)), .int .i64 (bothC nm l m nm' l' m')]) ∧ Below w'.heap.size w' w'') := fun w' hb => rConvert_any nm A c l m nm' A' c' l' m' 0 0 0 0 w' hs hl (Kd.C_below hr hb) hc hs' (Kd.C_below hr' hb) hc'
  have HR : Hid (∀ (p : Px) w', Below w.heap.size w w' → Calls Try.prog 28 #[.agg (profC nm (.slice A l.length c) m), .agg (profC nm' (.slice A' l'.length c') m'), .agg (pixC p.f0 p.f1 p.f2 p.f3)] w' fun e w'' => e = .returned (.tuple #[.agg (pixF (convP nm l m nm' l' m' p.f0 p.f1 p.f2 p.f3)), .int .i64 (bothC nm l m nm' l' m')]) ∧ Below w'.heap.size w' w'') := fun p w' hb => rConvert_any nm A c l m nm' A' c' l' m' p.f0 p.f1 p.f2 p.f3 w' hs hl (Kd.C_below hr hb) hc hs' (Kd.C_below hr' hb) hc'
  have HPI : Hid (∀ w', Below w.heap.size w w' → Calls Try.prog 38 #[.agg (imgC W H (.slice Ax px.length cx))] w' fun e w'' => e = .returned (.int .i64 (picC W H px)) ∧ Below w'.heap.size w' w'') := fun w' hb => picture_any W H Ax cx px w' (Kd.C_below hx hb) hcx
  have HX : Hid (∀ w', Below w.heap.size w w' → Kd.C k35 w' Ax px.length px) := fun w' hb => Kd.C_below hx hb
  have HCV : Hid (∀ p, (cvP nm l m nm' l' m') p = pxF (convP nm l m nm' l' m' p.f0 p.f1 p.f2 p.f3)) := fun p => rfl
  have HE : Hid (imgE (bothC nm l m nm' l' m') W H px = if (bothC nm l m nm' l' m') = 0 then picC W H px else (bothC nm l m nm' l' m')) := rfl
  have HLN : Hid (picC W H px = 0 → px.length ≤ 65536) := pic_len
  generalize imgE (bothC nm l m nm' l' m') W H px = ie at *
  generalize (bothC nm l m nm' l' m') = pc at *
  generalize (cvP nm l m nm' l' m') = cv at *
  generalize picC W H px = pe at *
  generalize (convP nm l m nm' l' m' 0 0 0 0) = z0 at *
  go_enter Try.func11, Try.ntmps11
  go_upto_region 1 with fail
  have h0 : holdsC ((((w.alloc (.cells (profC nm (.slice A l.length c) m) 25)).alloc (.cells (profC nm' (.slice A' l'.length c') m') 25)).alloc (.cells (imgC W H (.slice Ax px.length cx)) 28)).alloc (.cells #[.int .i64 0, .int .i64 0, .slice none 0 0] 28)) w.heap.size 25 (profC nm (.slice A l.length c) m) := by
    have h : holdsC (w.alloc (.cells (profC nm (.slice A l.length c) m) 25)) w.heap.size 25 (profC nm (.slice A l.length c) m) := heap_alloc_new _ _
    have h := (((h.alloc (.cells (profC nm' (.slice A' l'.length c') m') 25)).alloc (.cells (imgC W H (.slice Ax px.length cx)) 28)).alloc (.cells #[.int .i64 0, .int .i64 0, .slice none 0 0] 28))
    exact h
  have h1 : holdsC ((((w.alloc (.cells (profC nm (.slice A l.length c) m) 25)).alloc (.cells (profC nm' (.slice A' l'.length c') m') 25)).alloc (.cells (imgC W H (.slice Ax px.length cx)) 28)).alloc (.cells #[.int .i64 0, .int .i64 0, .slice none 0 0] 28)) (w.heap.size + 1) 25 (profC nm' (.slice A' l'.length c') m') := by
    have h : holdsC ((w.alloc (.cells (profC nm (.slice A l.length c) m) 25)).alloc (.cells (profC nm' (.slice A' l'.length c') m') 25)) (w.alloc (.cells (profC nm (.slice A l.length c) m) 25)).heap.size 25 (profC nm' (.slice A' l'.length c') m') := heap_alloc_new _ _
    have h := ((h.alloc (.cells (imgC W H (.slice Ax px.length cx)) 28)).alloc (.cells #[.int .i64 0, .int .i64 0, .slice none 0 0] 28))
    simpa using h
  have h2 : holdsC ((((w.alloc (.cells (profC nm (.slice A l.length c) m) 25)).alloc (.cells (profC nm' (.slice A' l'.length c') m') 25)).alloc (.cells (imgC W H (.slice Ax px.length cx)) 28)).alloc (.cells #[.int .i64 0, .int .i64 0, .slice none 0 0] 28)) (w.heap.size + 1 + 1) 28 (imgC W H (.slice Ax px.length cx)) := by
    have h : holdsC (((w.alloc (.cells (profC nm (.slice A l.length c) m) 25)).alloc (.cells (profC nm' (.slice A' l'.length c') m') 25)).alloc (.cells (imgC W H (.slice Ax px.length cx)) 28)) ((w.alloc (.cells (profC nm (.slice A l.length c) m) 25)).alloc (.cells (profC nm' (.slice A' l'.length c') m') 25)).heap.size 28 (imgC W H (.slice Ax px.length cx)) := heap_alloc_new _ _
    have h := (h.alloc (.cells #[.int .i64 0, .int .i64 0, .slice none 0 0] 28))
    simpa using h
  have h3 : holdsC ((((w.alloc (.cells (profC nm (.slice A l.length c) m) 25)).alloc (.cells (profC nm' (.slice A' l'.length c') m') 25)).alloc (.cells (imgC W H (.slice Ax px.length cx)) 28)).alloc (.cells #[.int .i64 0, .int .i64 0, .slice none 0 0] 28)) (w.heap.size + 1 + 1 + 1) 28 #[.int .i64 0, .int .i64 0, .slice none 0 0] := by
    have h : holdsC ((((w.alloc (.cells (profC nm (.slice A l.length c) m) 25)).alloc (.cells (profC nm' (.slice A' l'.length c') m') 25)).alloc (.cells (imgC W H (.slice Ax px.length cx)) 28)).alloc (.cells #[.int .i64 0, .int .i64 0, .slice none 0 0] 28)) (((w.alloc (.cells (profC nm (.slice A l.length c) m) 25)).alloc (.cells (profC nm' (.slice A' l'.length c') m') 25)).alloc (.cells (imgC W H (.slice Ax px.length cx)) 28)).heap.size 28 #[.int .i64 0, .int .i64 0, .slice none 0 0] := heap_alloc_new _ _
    have h := h
    simpa using h
  have hb : Below w.heap.size w ((((w.alloc (.cells (profC nm (.slice A l.length c) m) 25)).alloc (.cells (profC nm' (.slice A' l'.length c') m') 25)).alloc (.cells (imgC W H (.slice Ax px.length cx)) 28)).alloc (.cells #[.int .i64 0, .int .i64 0, .slice none 0 0] 28)) := (((((Below.refl _ _).alloc (Nat.le_refl _) _).alloc (by simp) _).alloc (by simp; omega) _).alloc (by simp; omega) _)
  generalize ((((w.alloc (.cells (profC nm (.slice A l.length c) m) 25)).alloc (.cells (profC nm' (.slice A' l'.length c') m') 25)).alloc (.cells (imgC W H (.slice Ax px.length cx)) 28)).alloc (.cells #[.int .i64 0, .int .i64 0, .slice none 0 0] 28)) = wc at *
  generalize hB : w.heap.size = B at *
  have HB := Lib.hid hB
  clear hB
  go_wp2_with (first
    | (refine wpList_load_row rfl 25 (.tmp 3) rfl B rfl 25 (profC nm (.slice A l.length c) m) (0, 0) _ h0 Try.underlying25 rfl (profC_info _ _ _) ?_)
    | (refine wpList_load_row rfl 25 (.tmp 4) rfl (B + 1) rfl 25 (profC nm' (.slice A' l'.length c') m') (0, 0) _ h1 Try.underlying25 rfl (profC_info _ _ _) ?_)
    | (refine wpList_build_as rfl 35 _ rfl #[.int .i64 0, .int .i64 0, .int .i64 0, .int .i64 0] (by kernel_rfl) ?_))
  refine (HR0.out _ hb).mono ?_; rintro e w1 ⟨rfl, b1⟩
  have g0_ := h0.kept b1 h0.lt
  have g1_ := h1.kept b1 h1.lt
  have g2_ := h2.kept b1 h2.lt
  have g3_ := h3.kept b1 h3.lt
  have gb_ := hb.trans (b1.mono (Nat.le_trans (Nat.le_of_eq HB.out.symm) hb.size))
  clear h0 h1 h2 h3 hb b1
  have H3 : holdsC (w1.alloc (.cells #[.int .i64 0, .int .i64 0, .int .i64 0, .int .i64 0] 35)) w1.heap.size 35 #[.int .i64 0, .int .i64 0, .int .i64 0, .int .i64 0] := heap_alloc_new _ _
  have k0_ := (g0_.alloc (.cells #[.int .i64 0, .int .i64 0, .int .i64 0, .int .i64 0] 35)).setRowOther (g' := w1.heap.size) (by have := g0_.lt; omega) #[.int .i64 (z0 0), .int .i64 (z0 1), .int .i64 (z0 2), .int .i64 (z0 3)]
  have nk0_ : B < w1.heap.size := g0_.lt
  have k1_ := (g1_.alloc (.cells #[.int .i64 0, .int .i64 0, .int .i64 0, .int .i64 0] 35)).setRowOther (g' := w1.heap.size) (by have := g1_.lt; omega) #[.int .i64 (z0 0), .int .i64 (z0 1), .int .i64 (z0 2), .int .i64 (z0 3)]
  have nk1_ : (B + 1) < w1.heap.size := g1_.lt
  have k2_ := (g2_.alloc (.cells #[.int .i64 0, .int .i64 0, .int .i64 0, .int .i64 0] 35)).setRowOther (g' := w1.heap.size) (by have := g2_.lt; omega) #[.int .i64 (z0 0), .int .i64 (z0 1), .int .i64 (z0 2), .int .i64 (z0 3)]
  have nk2_ : (B + 1 + 1) < w1.heap.size := g2_.lt
  have k3_ := (g3_.alloc (.cells #[.int .i64 0, .int .i64 0, .int .i64 0, .int .i64 0] 35)).setRowOther (g' := w1.heap.size) (by have := g3_.lt; omega) #[.int .i64 (z0 0), .int .i64 (z0 1), .int .i64 (z0 2), .int .i64 (z0 3)]
  have nk3_ : (B + 1 + 1 + 1) < w1.heap.size := g3_.lt
  have k4_ := holdsC_row H3 #[.int .i64 (z0 0), .int .i64 (z0 1), .int .i64 (z0 2), .int .i64 (z0 3)]
  have nq1 : B ≤ w1.heap.size := by rw [← HB.out]; exact gb_.size
  have kb_ := below_setRow (gb_.alloc nq1 (.cells #[.int .i64 0, .int .i64 0, .int .i64 0, .int .i64 0] 35)) nq1 #[.int .i64 (z0 0), .int .i64 (z0 1), .int .i64 (z0 2), .int .i64 (z0 3)]
  go_upto_region 2 with (first | (refine wpList_store_row rfl 35 (.tmp 8) (.tmp 19) rfl _ #[.int .i64 (z0 0), .int .i64 (z0 1), .int .i64 (z0 2), .int .i64 (z0 3)] rfl rfl 35 _ H3 (by kernel_rfl) rfl (by kernel_rfl) ?_))
  clear H3 g0_ g1_ g2_ g3_ gb_
  generalize (w1.alloc (.cells #[.int .i64 0, .int .i64 0, .int .i64 0, .int .i64 0] 35)).setRow w1.heap.size #[.int .i64 (z0 0), .int .i64 (z0 1), .int .i64 (z0 2), .int .i64 (z0 3)] = w2 at *
  generalize w1.heap.size = q1 at *
  clear k4_ HR0
  by_cases hpc : pc = 0
  · have hne : (pc == 0) = true := by simpa using hpc
    subst hpc
    have HE1 : Hid (ie = pe) := by
      show _ = _
      rw [HE.out, if_pos rfl]
    clear HE
    go_upto_region 4 with fail
    go_wp2_with (refine wpList_load_row rfl 28 (.tmp 5) rfl (B + 1 + 1) rfl 28 (imgC W H (.slice Ax px.length cx)) (0, 0) _ k2_ Try.underlying28 rfl (by kernel_rfl) ?_)
    refine (HPI.out _ kb_).mono ?_; rintro e w3 ⟨rfl, b1⟩
    have u0_ := k0_.kept b1 k0_.lt
    have u1_ := k1_.kept b1 k1_.lt
    have u2_ := k2_.kept b1 k2_.lt
    have u3_ := k3_.kept b1 k3_.lt
    have ub_ := kb_.trans (b1.mono (Nat.le_trans (Nat.le_of_eq HB.out.symm) kb_.size))
    clear k0_ k1_ k2_ k3_ kb_ b1
    by_cases hpe : pe = 0
    · have hne2 : (pe == 0) = true := by simpa using hpe
      have hlen := HLN.out hpe
      have hE : Hid (ie = 0) := HE1.out.trans hpe
      clear HLN HE1 HPI
      go_upto_region 7 with fail
      have c0 := u2_.cell 0 (.int .i64 W) rfl
      have c1 := u2_.cell 1 (.int .i64 H) rfl
      have H3 : holdsC (w3.alloc (.cells #[.int .i64 0, .int .i64 0, .slice none 0 0] 28)) w3.heap.size 28 #[.int .i64 0, .int .i64 0, .slice none 0 0] := heap_alloc_new _ _
      have v0_ := (u0_.alloc (.cells #[.int .i64 0, .int .i64 0, .slice none 0 0] 28)).setRowOther (g' := w3.heap.size) (by have := u0_.lt; omega) (imgC W H (.slice none 0 0))
      have nv0_ : B < w3.heap.size := u0_.lt
      have v1_ := (u1_.alloc (.cells #[.int .i64 0, .int .i64 0, .slice none 0 0] 28)).setRowOther (g' := w3.heap.size) (by have := u1_.lt; omega) (imgC W H (.slice none 0 0))
      have nv1_ : (B + 1) < w3.heap.size := u1_.lt
      have v2_ := (u2_.alloc (.cells #[.int .i64 0, .int .i64 0, .slice none 0 0] 28)).setRowOther (g' := w3.heap.size) (by have := u2_.lt; omega) (imgC W H (.slice none 0 0))
      have nv2_ : (B + 1 + 1) < w3.heap.size := u2_.lt
      have v3_ := (u3_.alloc (.cells #[.int .i64 0, .int .i64 0, .slice none 0 0] 28)).setRowOther (g' := w3.heap.size) (by have := u3_.lt; omega) (imgC W H (.slice none 0 0))
      have nv3_ : (B + 1 + 1 + 1) < w3.heap.size := u3_.lt
      have v5_ := holdsC_row H3 (imgC W H (.slice none 0 0))
      have nq2 : B ≤ w3.heap.size := by rw [← HB.out]; exact ub_.size
      have vb_ := below_setRow (ub_.alloc nq2 (.cells #[.int .i64 0, .int .i64 0, .slice none 0 0] 28)) nq2 (imgC W H (.slice none 0 0))
      go_upto_region 8 with (first | (refine wpList_build_as rfl 28 _ rfl (imgC W H (.slice none 0 0)) (by kernel_rfl) ?_) | (refine wpList_store_row rfl 28 (.tmp 10) (.tmp 35) rfl _ (imgC W H (.slice none 0 0)) rfl rfl 28 _ H3 (by kernel_rfl) rfl (by kernel_rfl) ?_))
      clear H3 u0_ u1_ u2_ u3_ ub_
      generalize (w3.alloc (.cells #[.int .i64 0, .int .i64 0, .slice none 0 0] 28)).setRow w3.heap.size (imgC W H (.slice none 0 0)) = w4 at *
      generalize w3.heap.size = q2 at *
      clear c0 c1 hne hne2
      have hqz : q2 + 1 ≤ w4.heap.size := v5_.lt
      have nq3 : B + 1 + 1 + 1 < q2 := by first | assumption | omega
      have c2 := v2_.cell 2 (.slice Ax px.length cx) rfl
      go_wp2_with fail
      go_loopw [11, 12, 13, 39] (fun _ _ _ v39 wr => ∃ (i : Nat) (v : Value), i ≤ px.length ∧ v39 = .int .i64 i ∧ holdsC wr q2 28 (imgC W H v) ∧ Hid (Kd.R k35 35 wr (q2 + 1) (fun _ => True) v ((px.take i).map cv)) ∧ q2 + 1 ≤ wr.heap.size ∧ holdsC wr B 25 (profC nm (.slice A l.length c) m) ∧ holdsC wr (B + 1) 25 (profC nm' (.slice A' l'.length c') m') ∧ holdsC wr (B + 1 + 1) 28 (imgC W H (.slice Ax px.length cx)) ∧ holdsC wr (B + 1 + 1 + 1) 28 #[.int .i64 0, .int .i64 0, .slice none 0 0] ∧ Below B w wr) (fun _ _ _ v _ => px.length - (intOf v).toNat)
      case atStart => exact ⟨0, _, by omega, rfl, v5_, Lib.hid (Kd.R_nil _ _ _ _ _), hqz, v0_, v1_, v2_, v3_, vb_⟩
      case round =>
        clear c2 hqz v0_ v1_ v2_ v3_ v5_ vb_
        obtain ⟨i, v, hi, rfl, xo, HXR, xz, x0, x1, x2, x3, xb⟩ := hrel
        obtain ⟨w20, hw20⟩ : ∃ w20 : World, w20 = wr := ⟨_, rfl⟩
        subst hw20
        by_cases hil : i < px.length
        · have hd : decide ((i : Int) < (px.length : Int)) = true := decide_eq_true (by omega)
          have HMS : Hid ((px.take i).map cv ++ [cv (rd_T35 px (i : Int))] = (px.take (i + 1)).map cv) := map_step cv px i hil
          have hll : ((px.take i).map cv).length ≤ 65536 := by simp; omega
          obtain ⟨ad, e5, y0, y1, y2, y3⟩ := at_T35 (HX.out w20 xb) (i : Int) (by omega) (by omega)
          cases e5
          simp only [Int.toNat_natCast] at y0 y1 y2 y3
          have p1 : (0 ≤ (i : Int)) = True := eq_true (by omega)
          have p2 : ((i : Int) < (px.length : Int)) = True := eq_true (by omega)
          generalize rd_T35 px (i : Int) = p at *
          have HR1 := Lib.hid (fun w' hb => HR.out p w' hb)
          have hcp := HCV.out p
          rw [hcp] at HMS
          clear hcp
          generalize (convP nm l m nm' l' m' p.f0 p.f1 p.f2 p.f3) = ep at *
          generalize (px.take i).map cv = li at *
          generalize hln : (px.take (i + 1)).map cv = ln at *
          have HLNE := Lib.hid hln
          clear hln
          go_upto_region 11 with fail
          go_cut [12, 13] (fun v12 v13 wd => ∃ G : Nat, v12 = .pointer (some ⟨G, 0, none⟩) ∧ v13 = .int .i64 0 ∧ q2 < G ∧ holdsC wd G 35 #[.int .i64 (ep 0), .int .i64 (ep 1), .int .i64 (ep 2), .int .i64 (ep 3)] ∧ holdsC wd q2 28 (imgC W H v) ∧ Hid (Kd.R k35 35 wd (q2 + 1) (fun _ => True) v li) ∧ q2 + 1 ≤ wd.heap.size ∧ holdsC wd B 25 (profC nm (.slice A l.length c) m) ∧ holdsC wd (B + 1) 25 (profC nm' (.slice A' l'.length c') m') ∧ holdsC wd (B + 1 + 1) 28 (imgC W H (.slice (some ad) px.length cx)) ∧ holdsC wd (B + 1 + 1 + 1) 28 #[.int .i64 0, .int .i64 0, .slice none 0 0] ∧ Below B w wd)
          case first =>
            refine start_ (n := 14) (S := fun w' => holdsC w' B 25 (profC nm (.slice A l.length c) m) ∧ holdsC w' (B + 1) 25 (profC nm' (.slice A' l'.length c') m') ∧ holdsC w' (B + 1 + 1) 28 (imgC W H (.slice (some ad) px.length cx)) ∧ w'.cell? (ad.add (i * 4)) = some (.int .i64 p.f0) ∧ w'.cell? ⟨(ad.add (i * 4)).block, (ad.add (i * 4)).off + 1, none⟩ = some (.int .i64 p.f1) ∧ w'.cell? ⟨(ad.add (i * 4)).block, (ad.add (i * 4)).off + 2, none⟩ = some (.int .i64 p.f2) ∧ w'.cell? ⟨(ad.add (i * 4)).block, (ad.add (i * 4)).off + 3, none⟩ = some (.int .i64 p.f3)) (ds := [12]) #[false, false, false, false, false, false, false, false, false, false, false, false, false, false] (by kernel_rfl) rfl rfl ⟨x0, x1, x2, y0, y1, y2, y3⟩ (fun hHeld => ?_)
            have xb := xb.drew
            have x3 : holdsC w20.drew (B + 1 + 1 + 1) 28 #[.int .i64 0, .int .i64 0, .slice none 0 0] := x3
            have xo : holdsC w20.drew q2 28 (imgC W H v) := xo
            have HXR := Lib.hid (Kd.R_drew HXR.out)
            have xz : q2 + 1 ≤ w20.drew.heap.size := xz
            clear x0 x1 x2 y0 y1 y2 y3
            generalize w20.drew = W0 at *
            refine take_ (i := 0) (N := some 43) (v := .agg (profC nm (.slice A l.length c) m)) (a' := ?_) #[true, false, false, false, false, false, false, false, false, false, false, false, false, false] rfl rfl (by kernel_rfl) (fun _ _ _ h => h) (Or.inl ⟨by rfl, fun w' s => exec_loadC rfl rfl s.1 rfl Try.underlying25 (profC_info _ _ _)⟩) hHeld ?_ ?_
            rotate_left
            · simp only [Act.put, List.setIfInBounds_toArray, List.set_cons_zero, List.set_cons_succ]
              rfl
            refine take_ (i := 1) (N := some 44) (v := .agg (profC nm' (.slice A' l'.length c') m')) (a' := ?_) #[true, true, false, false, false, false, false, false, false, false, false, false, false, false] rfl rfl (by kernel_rfl) (fun _ _ _ h => h) (Or.inl ⟨by rfl, fun w' s => exec_loadC rfl rfl s.2.1 rfl Try.underlying25 (profC_info _ _ _)⟩) hHeld ?_ ?_
            rotate_left
            · simp only [Act.put, List.setIfInBounds_toArray, List.set_cons_zero, List.set_cons_succ]
              rfl
            refine pure_ (i := 2) (N := some 45) (v := ?_) (a' := ?_) #[true, true, true, false, false, false, false, false, false, false, false, false, false, false] rfl rfl (by kernel_rfl) (fun _ _ _ h => h) (Or.inl ⟨by rfl, ?_⟩) ?_ ?_
            rotate_left
            · intro w'
              go_simp
              with_reducible rfl
            rotate_left
            · simp only [Act.put, List.setIfInBounds_toArray, List.set_cons_zero, List.set_cons_succ]
              rfl
            refine take_ (i := 3) (N := some 46) (v := ?_) (a' := ?_) #[true, true, true, true, false, false, false, false, false, false, false, false, false, false] rfl rfl (by kernel_rfl) (fun _ _ _ h => h) (Or.inl ⟨by rfl, ?_⟩) hHeld ?_ ?_
            rotate_left
            · rintro w' ⟨s0, s1, s2, t0, t1, t2, t3⟩
              have c1_ := s2.cell 2 (.slice (some ad) px.length cx) rfl
              go_simp
              with_reducible rfl
            rotate_left
            · simp only [Act.put, List.setIfInBounds_toArray, List.set_cons_zero, List.set_cons_succ]
              rfl
            refine pure_ (i := 4) (N := some 47) (v := ?_) (a' := ?_) #[true, true, true, true, true, false, false, false, false, false, false, false, false, false] rfl rfl (by kernel_rfl) (fun _ _ _ h => h) (Or.inl ⟨by rfl, ?_⟩) ?_ ?_
            rotate_left
            · intro w'
              go_simp
              with_reducible rfl
            rotate_left
            · simp only [Act.put, List.setIfInBounds_toArray, List.set_cons_zero, List.set_cons_succ]
              rfl
            refine pure_ (i := 5) (N := some 48) (v := ?_) (a' := ?_) #[true, true, true, true, true, true, false, false, false, false, false, false, false, false] rfl rfl (by kernel_rfl) (fun _ _ _ h => h) (Or.inl ⟨by rfl, ?_⟩) ?_ ?_
            rotate_left
            · intro w'
              go_simp
              with_reducible rfl
            rotate_left
            · simp only [Act.put, List.setIfInBounds_toArray, List.set_cons_zero, List.set_cons_succ]
              rfl
            refine take_ (i := 6) (N := some 49) (v := ?_) (a' := ?_) #[true, true, true, true, true, true, true, false, false, false, false, false, false, false] rfl rfl (by kernel_rfl) (fun _ _ _ h => h) (Or.inl ⟨by rfl, ?_⟩) hHeld ?_ ?_
            rotate_left
            · rintro w' ⟨s0, s1, s2, t0, t1, t2, t3⟩
              go_simp
              with_reducible rfl
            rotate_left
            · simp only [Act.put, List.setIfInBounds_toArray, List.set_cons_zero, List.set_cons_succ]
              rfl
            obtain ⟨x0, x1, x2, y0, y1, y2, y3⟩ := hHeld
            refine twoR_ (i := 7) (j := 11) (Ni := some 50) (Nj := some 12) #[true, true, true, true, true, true, true, true, false, false, false, false, false, false] #[true, true, true, true, true, true, true, false, false, false, false, true, false, false] rfl rfl rfl rfl (by kernel_rfl) (by decide) (by decide) (fun K hK => ?_) (fun K hK => ?_)
            · skip
              refine goes_ Try.func28 (by kernel_rfl) rfl #[.agg (profC nm (.slice A l.length c) m), .agg (profC nm' (.slice A' l'.length c') m'), .agg (pixC p.f0 p.f1 p.f2 p.f3)] (by rfl) rfl rfl (by simp only [List.map_toArray, List.map_cons, List.map_nil]; rfl) ?_
              refine (HR1.out _ xb).mono ?_
              rintro e V1 ⟨rfl, b1⟩
              refine ⟨_, rfl, ?_⟩
              have x0 := x0.kept b1 x0.lt
              have x1 := x1.kept b1 x1.lt
              have x2 := x2.kept b1 x2.lt
              have x3 := x3.kept b1 x3.lt
              have xo := xo.kept b1 xo.lt
              have HXR := Lib.hid (Kd.R_below HXR.out b1)
              have xz : q2 + 1 ≤ V1.heap.size := Nat.le_trans xz b1.size
              have y0 := pw_cell_below b1 y0
              have y1 := pw_cell_below b1 y1
              have y2 := pw_cell_below b1 y2
              have y3 := pw_cell_below b1 y3
              have xb := xb.trans (b1.mono (Nat.le_trans (Nat.le_of_eq HB.out.symm) xb.size))
              refine hK.out _ _ ⟨x0, x1, x2, y0, y1, y2, y3⟩ (fun hHeld => ?_)
              clear hK K b1 hHeld
              refine norm_ (a' := ?_) ?_ ?_
              rotate_left
              · show Act.put _ (some 50) _ = _
                simp only [Act.put, List.setIfInBounds_toArray, List.set_cons_zero, List.set_cons_succ]
                rfl
              refine pure_ (i := 8) (N := some 42) (v := ?_) (a' := ?_) #[true, true, true, true, true, true, true, true, true, false, false, false, false, false] rfl rfl (by kernel_rfl) (fun _ _ _ h => h) (Or.inl ⟨by rfl, ?_⟩) ?_ ?_
              rotate_left
              · intro w'
                go_simp
                with_reducible rfl
              rotate_left
              · simp only [Act.put, List.setIfInBounds_toArray, List.set_cons_zero, List.set_cons_succ]
                rfl
              refine pure_ (i := 9) (N := some 51) (v := ?_) (a' := ?_) #[true, true, true, true, true, true, true, true, true, true, false, false, false, false] rfl rfl (by kernel_rfl) (fun _ _ _ h => h) (Or.inl ⟨by rfl, ?_⟩) ?_ ?_
              rotate_left
              · intro w'
                go_simp
                with_reducible rfl
              rotate_left
              · simp only [Act.put, List.setIfInBounds_toArray, List.set_cons_zero, List.set_cons_succ]
                rfl
              refine pure_ (i := 10) (N := some 52) (v := ?_) (a' := ?_) #[true, true, true, true, true, true, true, true, true, true, true, false, false, false] rfl rfl (by kernel_rfl) (fun _ _ _ h => h) (Or.inl ⟨by rfl, ?_⟩) ?_ ?_
              rotate_left
              · intro w'
                go_simp
                with_reducible rfl
              rotate_left
              · simp only [Act.put, List.setIfInBounds_toArray, List.set_cons_zero, List.set_cons_succ]
                rfl
              refine one_ (i := 11) (N := some 12) #[true, true, true, true, true, true, true, true, true, true, true, true, false, false] rfl rfl (by kernel_rfl) (by decide) (fun K hK => ?_)
              refine value_ (by rfl) rfl (exec_newX rfl) ?_
              have gG : holdsC (V1.alloc (.cells #[.int .i64 0, .int .i64 0, .int .i64 0, .int .i64 0] 35)) V1.heap.size 35 #[.int .i64 0, .int .i64 0, .int .i64 0, .int .i64 0] := heap_alloc_new _ _
              have hG : q2 < V1.heap.size := xo.lt
              have bz : Below V1.heap.size V1 (V1.alloc (.cells #[.int .i64 0, .int .i64 0, .int .i64 0, .int .i64 0] 35)) := below_alloc (Below.refl _ _) (.cells #[.int .i64 0, .int .i64 0, .int .i64 0, .int .i64 0] 35)
              have y0 := pw_cell_below bz y0
              have y1 := pw_cell_below bz y1
              have y2 := pw_cell_below bz y2
              have y3 := pw_cell_below bz y3
              have x0 := x0.alloc (.cells #[.int .i64 0, .int .i64 0, .int .i64 0, .int .i64 0] 35)
              have x1 := x1.alloc (.cells #[.int .i64 0, .int .i64 0, .int .i64 0, .int .i64 0] 35)
              have x2 := x2.alloc (.cells #[.int .i64 0, .int .i64 0, .int .i64 0, .int .i64 0] 35)
              have x3 := x3.alloc (.cells #[.int .i64 0, .int .i64 0, .int .i64 0, .int .i64 0] 35)
              have xo := xo.alloc (.cells #[.int .i64 0, .int .i64 0, .int .i64 0, .int .i64 0] 35)
              have xb := xb.alloc (Nat.le_trans (by omega) (Nat.le_of_lt hG)) (.cells #[.int .i64 0, .int .i64 0, .int .i64 0, .int .i64 0] 35)
              have HXR := Lib.hid (Kd.R_alloc (Kd.R_elderB HXR.out V1.heap.size (Nat.le_refl _)) (.cells #[.int .i64 0, .int .i64 0, .int .i64 0, .int .i64 0] 35))
              replace xz : q2 + 1 ≤ (V1.alloc (.cells #[.int .i64 0, .int .i64 0, .int .i64 0, .int .i64 0] 35)).heap.size := Nat.le_trans xz bz.size
              clear bz
              refine hK.out _ _ ⟨x0, x1, x2, y0, y1, y2, y3⟩ (fun hHeld => ?_)
              clear hK K hHeld
              refine norm_ (a' := ?_) ?_ ?_
              rotate_left
              · show Act.put _ (some 12) _ = _
                simp only [Act.put, List.setIfInBounds_toArray, List.set_cons_zero, List.set_cons_succ]
                rfl
              generalize V1.alloc (.cells #[.int .i64 0, .int .i64 0, .int .i64 0, .int .i64 0] 35) = V2 at *
              generalize V1.heap.size = G at *
              refine last_ (i := 12) (N := none) #[true, true, true, true, true, true, true, true, true, true, true, true, true, false] rfl rfl (by kernel_rfl) (by decide) (fun K hK => ?_)
              have gE := holdsC_row gG #[.int .i64 (ep 0), .int .i64 (ep 1), .int .i64 (ep 2), .int .i64 (ep 3)]
              have x0 := x0.setRowOther (g' := G) (by omega) #[.int .i64 (ep 0), .int .i64 (ep 1), .int .i64 (ep 2), .int .i64 (ep 3)]
              have x1 := x1.setRowOther (g' := G) (by omega) #[.int .i64 (ep 0), .int .i64 (ep 1), .int .i64 (ep 2), .int .i64 (ep 3)]
              have x2 := x2.setRowOther (g' := G) (by omega) #[.int .i64 (ep 0), .int .i64 (ep 1), .int .i64 (ep 2), .int .i64 (ep 3)]
              have x3 := x3.setRowOther (g' := G) (by omega) #[.int .i64 (ep 0), .int .i64 (ep 1), .int .i64 (ep 2), .int .i64 (ep 3)]
              have xo := xo.setRowOther (g' := G) (by omega) #[.int .i64 (ep 0), .int .i64 (ep 1), .int .i64 (ep 2), .int .i64 (ep 3)]
              have xb := below_setRow xb (show B ≤ G by omega) #[.int .i64 (ep 0), .int .i64 (ep 1), .int .i64 (ep 2), .int .i64 (ep 3)]
              have HXR := Lib.hid (R_setRowG HXR.out #[.int .i64 (ep 0), .int .i64 (ep 1), .int .i64 (ep 2), .int .i64 (ep 3)])
              have xz : q2 + 1 ≤ (V2.setRow G #[.int .i64 (ep 0), .int .i64 (ep 1), .int .i64 (ep 2), .int .i64 (ep 3)]).heap.size := by simpa [World.setRow] using xz
              refine skip_ (by rfl) rfl (exec_storeC (c := #[.int .i64 (ep 0), .int .i64 (ep 1), .int .i64 (ep 2), .int .i64 (ep 3)]) rfl rfl rfl gG (by kernel_rfl) rfl (by kernel_rfl)) ?_
              refine hK.out _ _ ?_
              clear hK K gG
              refine pure_ (i := 13) (N := some 13) (v := ?_) (a' := ?_) #[true, true, true, true, true, true, true, true, true, true, true, true, true, true] rfl rfl (by kernel_rfl) (fun _ _ _ h => h) (Or.inl ⟨by rfl, ?_⟩) ?_ ?_
              rotate_left
              · intro w'
                go_simp
                with_reducible rfl
              rotate_left
              · simp only [Act.put, List.setIfInBounds_toArray, List.set_cons_zero, List.set_cons_succ]
                rfl
              refine done_ (by kernel_rfl) ?_
              go_wp2
              go_meet
              case rel => exact ⟨G, rfl, rfl, hG, gE, xo, HXR, xz, x0, x1, x2, x3, xb⟩
            · skip
              refine value_ (by rfl) rfl (exec_newX rfl) ?_
              have gG : holdsC (W0.alloc (.cells #[.int .i64 0, .int .i64 0, .int .i64 0, .int .i64 0] 35)) W0.heap.size 35 #[.int .i64 0, .int .i64 0, .int .i64 0, .int .i64 0] := heap_alloc_new _ _
              have hG : q2 < W0.heap.size := xo.lt
              have bz : Below W0.heap.size W0 (W0.alloc (.cells #[.int .i64 0, .int .i64 0, .int .i64 0, .int .i64 0] 35)) := below_alloc (Below.refl _ _) (.cells #[.int .i64 0, .int .i64 0, .int .i64 0, .int .i64 0] 35)
              have y0 := pw_cell_below bz y0
              have y1 := pw_cell_below bz y1
              have y2 := pw_cell_below bz y2
              have y3 := pw_cell_below bz y3
              have x0 := x0.alloc (.cells #[.int .i64 0, .int .i64 0, .int .i64 0, .int .i64 0] 35)
              have x1 := x1.alloc (.cells #[.int .i64 0, .int .i64 0, .int .i64 0, .int .i64 0] 35)
              have x2 := x2.alloc (.cells #[.int .i64 0, .int .i64 0, .int .i64 0, .int .i64 0] 35)
              have x3 := x3.alloc (.cells #[.int .i64 0, .int .i64 0, .int .i64 0, .int .i64 0] 35)
              have xo := xo.alloc (.cells #[.int .i64 0, .int .i64 0, .int .i64 0, .int .i64 0] 35)
              have xb := xb.alloc (Nat.le_trans (by omega) (Nat.le_of_lt hG)) (.cells #[.int .i64 0, .int .i64 0, .int .i64 0, .int .i64 0] 35)
              have HXR := Lib.hid (Kd.R_alloc (Kd.R_elderB HXR.out W0.heap.size (Nat.le_refl _)) (.cells #[.int .i64 0, .int .i64 0, .int .i64 0, .int .i64 0] 35))
              replace xz : q2 + 1 ≤ (W0.alloc (.cells #[.int .i64 0, .int .i64 0, .int .i64 0, .int .i64 0] 35)).heap.size := Nat.le_trans xz bz.size
              clear bz
              refine hK.out _ _ ⟨x0, x1, x2, y0, y1, y2, y3⟩ (fun hHeld => ?_)
              clear hK K hHeld
              refine norm_ (a' := ?_) ?_ ?_
              rotate_left
              · show Act.put _ (some 12) _ = _
                simp only [Act.put, List.setIfInBounds_toArray, List.set_cons_zero, List.set_cons_succ]
                rfl
              generalize W0.alloc (.cells #[.int .i64 0, .int .i64 0, .int .i64 0, .int .i64 0] 35) = V3 at *
              generalize W0.heap.size = G at *
              refine one_ (i := 7) (N := some 50) #[true, true, true, true, true, true, true, true, false, false, false, true, false, false] rfl rfl (by kernel_rfl) (by decide) (fun K hK => ?_)
              refine goes_ Try.func28 (by kernel_rfl) rfl #[.agg (profC nm (.slice A l.length c) m), .agg (profC nm' (.slice A' l'.length c') m'), .agg (pixC p.f0 p.f1 p.f2 p.f3)] (by rfl) rfl rfl (by simp only [List.map_toArray, List.map_cons, List.map_nil]; rfl) ?_
              refine (HR1.out _ xb).mono ?_
              rintro e V4 ⟨rfl, b1⟩
              refine ⟨_, rfl, ?_⟩
              have x0 := x0.kept b1 x0.lt
              have x1 := x1.kept b1 x1.lt
              have x2 := x2.kept b1 x2.lt
              have x3 := x3.kept b1 x3.lt
              have xo := xo.kept b1 xo.lt
              have HXR := Lib.hid (Kd.R_below HXR.out b1)
              have xz : q2 + 1 ≤ V4.heap.size := Nat.le_trans xz b1.size
              have y0 := pw_cell_below b1 y0
              have y1 := pw_cell_below b1 y1
              have y2 := pw_cell_below b1 y2
              have y3 := pw_cell_below b1 y3
              have gG := gG.kept b1 gG.lt
              have xb := xb.trans (b1.mono (Nat.le_trans (Nat.le_of_eq HB.out.symm) xb.size))
              refine hK.out _ _ ⟨x0, x1, x2, y0, y1, y2, y3⟩ (fun hHeld => ?_)
              clear hK K b1 hHeld
              refine norm_ (a' := ?_) ?_ ?_
              rotate_left
              · show Act.put _ (some 50) _ = _
                simp only [Act.put, List.setIfInBounds_toArray, List.set_cons_zero, List.set_cons_succ]
                rfl
              refine pure_ (i := 8) (N := some 42) (v := ?_) (a' := ?_) #[true, true, true, true, true, true, true, true, true, false, false, true, false, false] rfl rfl (by kernel_rfl) (fun _ _ _ h => h) (Or.inl ⟨by rfl, ?_⟩) ?_ ?_
              rotate_left
              · intro w'
                go_simp
                with_reducible rfl
              rotate_left
              · simp only [Act.put, List.setIfInBounds_toArray, List.set_cons_zero, List.set_cons_succ]
                rfl
              refine pure_ (i := 9) (N := some 51) (v := ?_) (a' := ?_) #[true, true, true, true, true, true, true, true, true, true, false, true, false, false] rfl rfl (by kernel_rfl) (fun _ _ _ h => h) (Or.inl ⟨by rfl, ?_⟩) ?_ ?_
              rotate_left
              · intro w'
                go_simp
                with_reducible rfl
              rotate_left
              · simp only [Act.put, List.setIfInBounds_toArray, List.set_cons_zero, List.set_cons_succ]
                rfl
              refine pure_ (i := 10) (N := some 52) (v := ?_) (a' := ?_) #[true, true, true, true, true, true, true, true, true, true, true, true, false, false] rfl rfl (by kernel_rfl) (fun _ _ _ h => h) (Or.inl ⟨by rfl, ?_⟩) ?_ ?_
              rotate_left
              · intro w'
                go_simp
                with_reducible rfl
              rotate_left
              · simp only [Act.put, List.setIfInBounds_toArray, List.set_cons_zero, List.set_cons_succ]
                rfl
              refine last_ (i := 12) (N := none) #[true, true, true, true, true, true, true, true, true, true, true, true, true, false] rfl rfl (by kernel_rfl) (by decide) (fun K hK => ?_)
              have gE := holdsC_row gG #[.int .i64 (ep 0), .int .i64 (ep 1), .int .i64 (ep 2), .int .i64 (ep 3)]
              have x0 := x0.setRowOther (g' := G) (by omega) #[.int .i64 (ep 0), .int .i64 (ep 1), .int .i64 (ep 2), .int .i64 (ep 3)]
              have x1 := x1.setRowOther (g' := G) (by omega) #[.int .i64 (ep 0), .int .i64 (ep 1), .int .i64 (ep 2), .int .i64 (ep 3)]
              have x2 := x2.setRowOther (g' := G) (by omega) #[.int .i64 (ep 0), .int .i64 (ep 1), .int .i64 (ep 2), .int .i64 (ep 3)]
              have x3 := x3.setRowOther (g' := G) (by omega) #[.int .i64 (ep 0), .int .i64 (ep 1), .int .i64 (ep 2), .int .i64 (ep 3)]
              have xo := xo.setRowOther (g' := G) (by omega) #[.int .i64 (ep 0), .int .i64 (ep 1), .int .i64 (ep 2), .int .i64 (ep 3)]
              have xb := below_setRow xb (show B ≤ G by omega) #[.int .i64 (ep 0), .int .i64 (ep 1), .int .i64 (ep 2), .int .i64 (ep 3)]
              have HXR := Lib.hid (R_setRowG HXR.out #[.int .i64 (ep 0), .int .i64 (ep 1), .int .i64 (ep 2), .int .i64 (ep 3)])
              have xz : q2 + 1 ≤ (V4.setRow G #[.int .i64 (ep 0), .int .i64 (ep 1), .int .i64 (ep 2), .int .i64 (ep 3)]).heap.size := by simpa [World.setRow] using xz
              refine skip_ (by rfl) rfl (exec_storeC (c := #[.int .i64 (ep 0), .int .i64 (ep 1), .int .i64 (ep 2), .int .i64 (ep 3)]) rfl rfl rfl gG (by kernel_rfl) rfl (by kernel_rfl)) ?_
              refine hK.out _ _ ?_
              clear hK K gG
              refine pure_ (i := 13) (N := some 13) (v := ?_) (a' := ?_) #[true, true, true, true, true, true, true, true, true, true, true, true, true, true] rfl rfl (by kernel_rfl) (fun _ _ _ h => h) (Or.inl ⟨by rfl, ?_⟩) ?_ ?_
              rotate_left
              · intro w'
                go_simp
                with_reducible rfl
              rotate_left
              · simp only [Act.put, List.setIfInBounds_toArray, List.set_cons_zero, List.set_cons_succ]
                rfl
              refine done_ (by kernel_rfl) ?_
              go_wp2
              go_meet
              case rel => exact ⟨G, rfl, rfl, hG, gE, xo, HXR, xz, x0, x1, x2, x3, xb⟩
          case rest =>
            clear x0 x1 x2 x3 xo xb xz HXR y0 y1 y2 y3
            obtain ⟨G, rfl, rfl, hG, zG, zo, HZR, zz, z0_, z1, z2, z3, zb⟩ := hcut
            obtain ⟨w22, hw22⟩ : ∃ w22 : World, w22 = wc := ⟨_, rfl⟩
            subst hw22
            have c1 := zo.cell 2 v rfl
            have d0 := zG.cell 0 (.int .i64 (ep 0)) rfl
            have d1 := zG.cell 1 (.int .i64 (ep 1)) rfl
            have d2 := zG.cell 2 (.int .i64 (ep 2)) rfl
            have d3 := zG.cell 3 (.int .i64 (ep 3)) rfl
            go_wp2_with (first | ((with_reducible refine gate_builtin (b := .append) (xs := #[.tmp 54, .tmp 56]) rfl ?_); at_builtin; refine Kd.R_append k35 (w0 := w22) (q2 + 1) rfl (.tmp 54) (.tmp 56) 26 35 (.agg #[.int .i64 0, .int .i64 0, .int .i64 0, .int .i64 0]) 32 rfl Try.underlying26 infoX rfl (by decide) (by omega) v li (pxF ep) [.int .i64 (ep 0), .int .i64 (ep 1), .int .i64 (ep 2), .int .i64 (ep 3)] (fun _ => True) (fun _ => False) rfl rfl ?aP (fun _ hk => hk.elim) ?aF ?aO ?aB ?aS ?aL ?_; (case aP => exact k35_mkM _ _ _ (pxF ep)); (case aB => exact Below.refl _ _); (case aF => exact (fun _ _ => trivial)); (case aO => exact HZR.out); (case aS => exact zz); (case aL => omega); intro v1 w23 ho hb4 hgr hat; obtain ⟨A1, c1_, hv1⟩ := Kd.R_slice ho; obtain ⟨n1, hn1⟩ : ∃ n, n = (li ++ [pxF ep]).length := ⟨_, rfl⟩; rw [← hn1] at hv1; subst hv1; clear hn1; have up := zo.kept hb4 (by omega); have u0 := z0_.kept hb4 (by omega); have u1 := z1.kept hb4 (by omega); have u2 := z2.kept hb4 (by omega); have u3 := z3.kept hb4 (by omega); have ub := zb.trans (hb4.mono (by omega)); have uz : q2 + 1 ≤ w23.heap.size := Nat.le_trans zz hb4.size; have HUR := Lib.hid ho; have cc := up.cell 2 v rfl; have ff := freeC_ up 2; clear hgr hat ho hb4))
            have vp := setC_ up 2 (.slice A1 n1 c1_)
            rw [imgC_set2] at vp
            have v0 : holdsC (w23.setCell ⟨q2, 2, none⟩ (.slice A1 n1 c1_)) B 25 (profC nm (.slice A l.length c) m) := by
              unfold holdsC at *
              rw [Below.heap_setCell w23 ⟨q2, 2, none⟩ (.slice A1 n1 c1_) B (by show B ≠ q2; omega)]; exact u0
            have v1 : holdsC (w23.setCell ⟨q2, 2, none⟩ (.slice A1 n1 c1_)) (B + 1) 25 (profC nm' (.slice A' l'.length c') m') := by
              unfold holdsC at *
              rw [Below.heap_setCell w23 ⟨q2, 2, none⟩ (.slice A1 n1 c1_) (B + 1) (by show (B + 1) ≠ q2; omega)]; exact u1
            have v2 : holdsC (w23.setCell ⟨q2, 2, none⟩ (.slice A1 n1 c1_)) (B + 1 + 1) 28 (imgC W H (.slice (some ad) px.length cx)) := by
              unfold holdsC at *
              rw [Below.heap_setCell w23 ⟨q2, 2, none⟩ (.slice A1 n1 c1_) (B + 1 + 1) (by show (B + 1 + 1) ≠ q2; omega)]; exact u2
            have v3 : holdsC (w23.setCell ⟨q2, 2, none⟩ (.slice A1 n1 c1_)) (B + 1 + 1 + 1) 28 #[.int .i64 0, .int .i64 0, .slice none 0 0] := by
              unfold holdsC at *
              rw [Below.heap_setCell w23 ⟨q2, 2, none⟩ (.slice A1 n1 c1_) (B + 1 + 1 + 1) (by show (B + 1 + 1 + 1) ≠ q2; omega)]; exact u3
            have HVR := Lib.hid (But_R (j := 2) (u := .slice A1 n1 c1_) HUR.out (show q2 < q2 + 1 by omega))
            rw [HMS.out] at HVR
            have vb : Below B w (w23.setCell ⟨q2, 2, none⟩ (.slice A1 n1 c1_)) := ub.setCell (by show B ≤ q2; omega) (.slice A1 n1 c1_)
            have vz : q2 + 1 ≤ (w23.setCell ⟨q2, 2, none⟩ (.slice A1 n1 c1_)).heap.size := by simpa [World.setCell] using uz
            skip
            go_roundw
            case rel => exact ⟨i + 1, (.slice A1 n1 c1_), by omega, by go_num, vp, (by rw [HLNE.out]; exact HVR), vz, v0, v1, v2, v3, vb⟩
            case measure => simp [intOf]; omega
        · have hd : decide ((i : Int) < (px.length : Int)) = false := decide_eq_false (by omega)
          obtain rfl : i = px.length := by omega
          obtain ⟨A2, c2, hv⟩ := Kd.R_slice HXR.out
          have hln : ((px.take px.length).map cv).length = px.length := by simp
          rw [hln] at hv
          subst hv
          have HXM := HXR.out
          clear HXR hln
          have hm : (px.take px.length).map cv = px.map cv := by rw [List.take_length]
          rw [hm] at HXM
          clear hm
          go_wp2_with (first
            | (refine wpList_load_row rfl 28 (.tmp 10) rfl q2 rfl 28 (imgC W H (.slice A2 px.length c2)) (0, 0) _ xo Try.underlying28 rfl (by kernel_rfl) ?_)
            | (refine wpList_store_row rfl 28 (.tmp 6) (.tmp 60) rfl (B + 1 + 1 + 1) (imgC W H (.slice A2 px.length c2)) rfl rfl 28 _ x3 (by kernel_rfl) rfl (by kernel_rfl) ?_))
          refine bodyPost_ret (v := .tuple #[.agg (imgC W H (.slice A2 px.length c2)), .int .i64 0]) (results_row_tmp rfl _ _ rfl rfl (holdsC_row x3 _) rfl Try.underlying28 (by kernel_rfl)) rfl ?_
          have hC := R_CX (R_setRowX HXM (g := B + 1 + 1 + 1) (by omega) (imgC W H (.slice A2 px.length c2)))
          have hq : imgL ie (px.map cv) = px.map cv := by
            unfold imgL
            rw [if_pos hE.out]
          exact ⟨A2, c2, by rw [hq, List.length_map, hE.out]; rfl, by rw [hq]; exact hC.2, by rw [hq]; exact hC.1, by rw [HB.out]; exact below_setRow xb (by omega) _⟩
    · have hne2 : (pe == 0) = false := by simpa using hpe
      have hE := HE1.out
      go_wp2_with (first
        | (refine wpList_build_as rfl 28 _ rfl #[.int .i64 0, .int .i64 0, .slice none 0 0] (by kernel_rfl) ?_)
        | (refine wpList_store_row rfl 28 (.tmp 6) (.tmp 29) rfl (B + 1 + 1 + 1) #[.int .i64 0, .int .i64 0, .slice none 0 0] rfl rfl 28 _ u3_ (by kernel_rfl) rfl (by kernel_rfl) ?_))
      refine bodyPost_ret (v := .tuple #[.agg #[.int .i64 0, .int .i64 0, .slice none 0 0], .int .i64 pe]) (results_row_tmp rfl _ _ rfl rfl (holdsC_row u3_ _) rfl Try.underlying28 (by kernel_rfl)) rfl ?_
      obtain ⟨q1, q2⟩ := img_err (E := ie) (by rw [hE]; exact hpe) W H (px.map cv)
      exact ⟨none, 0, by rw [q1, hE], by rw [q2]; exact Kd.C_nil _ _, by rw [q2]; exact Nat.le_refl _, by rw [HB.out]; exact below_setRow ub_ (by omega) _⟩
  · have hne : (pc == 0) = false := by simpa using hpc
    go_wp2_with (first
      | (refine wpList_build_as rfl 28 _ rfl #[.int .i64 0, .int .i64 0, .slice none 0 0] (by kernel_rfl) ?_)
      | (refine wpList_store_row rfl 28 (.tmp 6) (.tmp 23) rfl (B + 1 + 1 + 1) #[.int .i64 0, .int .i64 0, .slice none 0 0] rfl rfl 28 _ k3_ (by kernel_rfl) rfl (by kernel_rfl) ?_))
    refine bodyPost_ret (v := .tuple #[.agg #[.int .i64 0, .int .i64 0, .slice none 0 0], .int .i64 pc]) (results_row_tmp rfl _ _ rfl rfl (holdsC_row k3_ _) rfl Try.underlying28 (by kernel_rfl)) rfl ?_
    have hE : ie = pc := by rw [HE.out, if_neg hpc]
    obtain ⟨q1, q2⟩ := img_err (E := ie) (by rw [hE]; exact hpc) W H (px.map cv)
    exact ⟨none, 0, by rw [q1, hE], by rw [q2]; exact Kd.C_nil _ _, by rw [q2]; exact Nat.le_refl _, by rw [HB.out]; exact below_setRow kb_ (by omega) _⟩
end Go.Proofs.Ytlpfepcmpccbeaa.Im
