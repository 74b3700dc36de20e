/-
  Images of vectors: the reference's Apply.
-/
import Derived.Test.YteehnbgkgdhgaaaMx5
namespace Go.Proofs.Yteehnbgkgdhgaaa.Mx
open Go.RowKit Go.Proofs.Yteehnbgkgdhgaaa.NM Go.Proofs.Yteehnbgkgdhgaaa.Spec Go.Proofs.YteehnbgkgdhgaaaW.PrintWords Go.Proofs.YteehnbgkgdhgaaaW.PrintMore
attribute [local go_sem] max2_int min2_int
set_option linter.unusedVariables false


set_option maxHeartbeats 2000000 in
theorem rapply_bad (m v : Nat → Int) (w : World) (ha : ¬ okM m) :
    Calls Try.prog 20 #[.agg (arrN 9 m), .agg (arrN 3 v)] w fun e w' => e = .returned (.agg (arrN 3 (applyM m v))) ∧ Below w.heap.size w w' := by
  have HM : Hid (applyM m v = fun _ => 0) := by show _ = _; unfold applyM; rw [if_neg ha]
  have hc := codeM_bad ha
  go_enter Try.func20, Try.ntmps20
  go_upto_region 2 with fail
  rw [zero3]
  have h0 : holdsN ((((w.alloc (.cells (arrN 9 m) 22)).alloc (.cells (arrN 3 v) 23)).alloc (.cells (arrN 3 (fun _ => 0)) 23)).alloc (.cells (arrN 3 (fun _ => 0)) 23)) (w.heap.size) 22 9 m := (((holdsN_new w 22 9 m).alloc (.cells (arrN 3 v) 23)).alloc (.cells (arrN 3 (fun _ => 0)) 23)).alloc (.cells (arrN 3 (fun _ => 0)) 23)
  have h1 : holdsN ((((w.alloc (.cells (arrN 9 m) 22)).alloc (.cells (arrN 3 v) 23)).alloc (.cells (arrN 3 (fun _ => 0)) 23)).alloc (.cells (arrN 3 (fun _ => 0)) 23)) (w.heap.size + 1) 23 3 v := by
    have := ((holdsN_new (w.alloc (.cells (arrN 9 m) 22)) 23 3 v).alloc (.cells (arrN 3 (fun _ => 0)) 23)).alloc (.cells (arrN 3 (fun _ => 0)) 23)
    simpa using this
  have h2 : holdsN ((((w.alloc (.cells (arrN 9 m) 22)).alloc (.cells (arrN 3 v) 23)).alloc (.cells (arrN 3 (fun _ => 0)) 23)).alloc (.cells (arrN 3 (fun _ => 0)) 23)) (w.heap.size + 1 + 1) 23 3 (fun _ => 0) := by
    have := (holdsN_new ((w.alloc (.cells (arrN 9 m) 22)).alloc (.cells (arrN 3 v) 23)) 23 3 (fun _ => 0)).alloc (.cells (arrN 3 (fun _ => 0)) 23)
    simpa using this
  have h3 : holdsN ((((w.alloc (.cells (arrN 9 m) 22)).alloc (.cells (arrN 3 v) 23)).alloc (.cells (arrN 3 (fun _ => 0)) 23)).alloc (.cells (arrN 3 (fun _ => 0)) 23)) (w.heap.size + 1 + 1 + 1) 23 3 (fun _ => 0) := by
    have := holdsN_new (((w.alloc (.cells (arrN 9 m) 22)).alloc (.cells (arrN 3 v) 23)).alloc (.cells (arrN 3 (fun _ => 0)) 23)) 23 3 (fun _ => 0)
    simpa using this
  have hb : Below w.heap.size w ((((w.alloc (.cells (arrN 9 m) 22)).alloc (.cells (arrN 3 v) 23)).alloc (.cells (arrN 3 (fun _ => 0)) 23)).alloc (.cells (arrN 3 (fun _ => 0)) 23)) := ((((Below.refl _ _).alloc (Nat.le_refl _) _).alloc (by simp) _).alloc (by simp; omega) _).alloc (by simp; omega) _
  have hs : w.heap.size + 1 + 1 + 1 < ((((w.alloc (.cells (arrN 9 m) 22)).alloc (.cells (arrN 3 v) 23)).alloc (.cells (arrN 3 (fun _ => 0)) 23)).alloc (.cells (arrN 3 (fun _ => 0)) 23)).heap.size := by simp
  generalize ((((w.alloc (.cells (arrN 9 m) 22)).alloc (.cells (arrN 3 v) 23)).alloc (.cells (arrN 3 (fun _ => 0)) 23)).alloc (.cells (arrN 3 (fun _ => 0)) 23)) = wc at *
  generalize hB : w.heap.size = B at *
  have HB := Lib.hid hB
  clear hB
  go_wp2_with (refine wpList_load_arr rfl 22 (.tmp 2) rfl rfl h0 Try.underlying22 hi9 ?_)
  refine (rcheck_any m _).mono ?_; rintro e w1 ⟨rfl, b1⟩
  have G2 := Lib.hid (h2.kept b1 (by omega))
  have G3 := Lib.hid (h3.kept b1 (by omega))
  have GB := hb.trans (b1.mono (by omega))
  clear h0 h1 h2 h3 hb hs b1
  go_wp2_with (first
    | (refine wpList_load_arr rfl 23 (.tmp 5) rfl rfl G3.out Try.underlying23 hi3 ?_)
    | (refine wpList_store_arr rfl 23 (.tmp 4) (.tmp 12) rfl rfl rfl G2.out (arrN_size _ _) hi3 ?_))
  refine bodyPost_ret (v := .agg (arrN 3 fun _ => 0)) (results_cell_row rfl _ _ (B + 1 + 1) 23 _ _ _ rfl (holdsN_row G2.out _) Try.underlying23 rfl (by rw [arrN_size]; exact hi3)) rfl ?_
  exact ⟨by rw [HM.out], by rw [HB.out]; exact below_setRow GB (by omega) _⟩

set_option maxHeartbeats 2000000 in
theorem rapply_ok (m v : Nat → Int) (w : World) (ha : okM m) :
    Calls Try.prog 20 #[.agg (arrN 9 m), .agg (arrN 3 v)] w fun e w' => e = .returned (.agg (arrN 3 (applyM m v))) ∧ Below w.heap.size w w' := by
  have HM : Hid (applyM m v = imageM m (clampV v)) := by show _ = _; unfold applyM; rw [if_pos ha]
  have hc := codeM_ok ha
  have HA := Lib.hid ha
  clear ha
  go_enter Try.func20, Try.ntmps20
  go_upto_region 2 with fail
  rw [zero3]
  have h0 : holdsN ((((w.alloc (.cells (arrN 9 m) 22)).alloc (.cells (arrN 3 v) 23)).alloc (.cells (arrN 3 (fun _ => 0)) 23)).alloc (.cells (arrN 3 (fun _ => 0)) 23)) (w.heap.size) 22 9 m := (((holdsN_new w 22 9 m).alloc (.cells (arrN 3 v) 23)).alloc (.cells (arrN 3 (fun _ => 0)) 23)).alloc (.cells (arrN 3 (fun _ => 0)) 23)
  have h1 : holdsN ((((w.alloc (.cells (arrN 9 m) 22)).alloc (.cells (arrN 3 v) 23)).alloc (.cells (arrN 3 (fun _ => 0)) 23)).alloc (.cells (arrN 3 (fun _ => 0)) 23)) (w.heap.size + 1) 23 3 v := by
    have := ((holdsN_new (w.alloc (.cells (arrN 9 m) 22)) 23 3 v).alloc (.cells (arrN 3 (fun _ => 0)) 23)).alloc (.cells (arrN 3 (fun _ => 0)) 23)
    simpa using this
  have h2 : holdsN ((((w.alloc (.cells (arrN 9 m) 22)).alloc (.cells (arrN 3 v) 23)).alloc (.cells (arrN 3 (fun _ => 0)) 23)).alloc (.cells (arrN 3 (fun _ => 0)) 23)) (w.heap.size + 1 + 1) 23 3 (fun _ => 0) := by
    have := (holdsN_new ((w.alloc (.cells (arrN 9 m) 22)).alloc (.cells (arrN 3 v) 23)) 23 3 (fun _ => 0)).alloc (.cells (arrN 3 (fun _ => 0)) 23)
    simpa using this
  have h3 : holdsN ((((w.alloc (.cells (arrN 9 m) 22)).alloc (.cells (arrN 3 v) 23)).alloc (.cells (arrN 3 (fun _ => 0)) 23)).alloc (.cells (arrN 3 (fun _ => 0)) 23)) (w.heap.size + 1 + 1 + 1) 23 3 (fun _ => 0) := by
    have := holdsN_new (((w.alloc (.cells (arrN 9 m) 22)).alloc (.cells (arrN 3 v) 23)).alloc (.cells (arrN 3 (fun _ => 0)) 23)) 23 3 (fun _ => 0)
    simpa using this
  have hb : Below w.heap.size w ((((w.alloc (.cells (arrN 9 m) 22)).alloc (.cells (arrN 3 v) 23)).alloc (.cells (arrN 3 (fun _ => 0)) 23)).alloc (.cells (arrN 3 (fun _ => 0)) 23)) := ((((Below.refl _ _).alloc (Nat.le_refl _) _).alloc (by simp) _).alloc (by simp; omega) _).alloc (by simp; omega) _
  have hs : w.heap.size + 1 + 1 + 1 < ((((w.alloc (.cells (arrN 9 m) 22)).alloc (.cells (arrN 3 v) 23)).alloc (.cells (arrN 3 (fun _ => 0)) 23)).alloc (.cells (arrN 3 (fun _ => 0)) 23)).heap.size := by simp
  generalize ((((w.alloc (.cells (arrN 9 m) 22)).alloc (.cells (arrN 3 v) 23)).alloc (.cells (arrN 3 (fun _ => 0)) 23)).alloc (.cells (arrN 3 (fun _ => 0)) 23)) = wc at *
  generalize hB : w.heap.size = B at *
  have HB := Lib.hid hB
  clear hB
  go_wp2_with (refine wpList_load_arr rfl 22 (.tmp 2) rfl rfl h0 Try.underlying22 hi9 ?_)
  refine (rcheck_any m _).mono ?_; rintro e w1 ⟨rfl, b1⟩
  have g0 := h0.kept b1 (by omega)
  have g1 := h1.kept b1 (by omega)
  have g2 := h2.kept b1 (by omega)
  have g3 := h3.kept b1 (by omega)
  have gb := hb.trans (b1.mono (by omega))
  have gs := Nat.lt_of_lt_of_le hs b1.size
  clear h0 h1 h2 h3 hb hs b1
  go_wp2_with fail
  clear hc
  go_loopw [6, 7, 8] (fun v6 _ _ wr => ∃ (i : Nat) (p : Nat → Int), i ≤ 3 ∧ v6 = .int .i64 i ∧ Hid (Upto i p (imageM m (clampV v))) ∧ holdsN wr B 22 9 m ∧ holdsN wr (B + 1) 23 3 v ∧ holdsN wr (B + 1 + 1) 23 3 (fun _ => 0) ∧ holdsN wr (B + 1 + 1 + 1) 23 3 p ∧ Below B w wr ∧ B + 1 + 1 + 1 < wr.heap.size) (fun v _ _ _ => 3 - (intOf v).toNat)
  case atStart => exact ⟨0, fun _ => 0, by omega, rfl, fun j hj => absurd hj (by omega), g0, g1, g2, g3, gb, gs⟩
  case round =>
    obtain ⟨i, p, hi, rfl, hd, k0, k1, k2, k3, kb, ks⟩ := hrel
    clear g0 g1 g2 g3 gb gs
    by_cases hi3 : i < 3
    · go_wp2_with fail
      obtain ⟨wo, hwo⟩ : ∃ wo : World, wo = wr := ⟨_, rfl⟩
      subst hwo
      rw [show decide ((i : Int) < 3) = true from decide_eq_true (by omega)]
      go_loopw [7, 8] (fun v7 v8 wr => ∃ k : Nat, k ≤ 3 ∧ v8 = .int .i64 k ∧ v7 = .int .i64 (dotV m (clampV v) i k) ∧ holdsN wr B 22 9 m ∧ holdsN wr (B + 1) 23 3 v ∧ holdsN wr (B + 1 + 1) 23 3 (fun _ => 0) ∧ holdsN wr (B + 1 + 1 + 1) 23 3 p ∧ Below B w wr ∧ B + 1 + 1 + 1 < wr.heap.size) (fun _ v _ => 3 - (intOf v).toNat)
      case atStart => exact ⟨0, by omega, rfl, rfl, k0, k1, k2, k3, kb, ks⟩
      case round =>
        obtain ⟨k, hk, rfl, rfl, k0, k1, k2, k3, kb, ks⟩ := hrel
        have hdb := dotV_bound (v := v) HA.out i hi3 k hk
        by_cases hk3 : k < 3
        · have c1 := k0.cell (3 * i + k) (by omega)
          have c2 := k1.cell k (by omega)
          have hxy := mul50 (HA.out (3 * i + k) (by omega)) (clampV_range v k)
          have hdot : Hid (dotV m (clampV v) i (k + 1) = dotV m (clampV v) i k + m (3 * i + k) * clampV v k) := rfl
          have hcl : (if 1073741824 < (if v k < -1073741824 then -1073741824 else v k) then 1073741824 else (if v k < -1073741824 then -1073741824 else v k)) = clampV v k := by unfold clampV clampS; split <;> split <;> omega
          generalize clampV v k = y at *
          generalize v k = z at *
          generalize m (3 * i + k) = x at *
          generalize hS : dotV m (clampV v) i k = S at *
          have HS := Lib.hid hS
          have HCL := Lib.hid hcl
          clear hS hcl
          obtain ⟨hxy0, hxy1⟩ := hxy
          obtain ⟨hdb0, hdb1⟩ := hdb
          go_wp2_with fail
          go_quiet (fail)
          go_wp2_with fail
          go_roundw
          case rel => exact ⟨k + 1, by omega, by go_num, by rw [HCL.out, hdot.out, w64' (x := x * y) (by omega) (by omega), w64' (by omega) (by omega)], k0.drewN _, k1.drewN _, k2.drewN _, k3.drewN _, below_drewN kb _, ks⟩
          case measure => simp [intOf]; omega
        · obtain rfl : k = 3 := by omega
          have c2 := k3.cell i (by omega)
          have c3 := k3.free i
          have hd' : Hid (Upto (i + 1) (upd p i (imageM m (clampV v) i)) (imageM m (clampV v))) := hd.out.step
          have hS : dotV m (clampV v) i 3 = m (3 * i) * clampV v 0 + m (3 * i + 1) * clampV v 1 + m (3 * i + 2) * clampV v 2 := by simp [dotV]
          have hE : imageM m (clampV v) i = divS (dotV m (clampV v) i 3) 65536 := by rw [hS]; rfl
          rw [hE] at hd'
          clear hS hE
          generalize dotV m (clampV v) i 3 = S at *
          have hdv := fun w => rdiv_any S 65536 w (by unfold I64; omega) (by unfold I64; omega)
          have HDV := Lib.hid hdv
          clear hdv
          go_wp2_with (go_at_call 34; refine (HDV.out _).mono ?_; rintro e w' ⟨rfl, ⟨nd, rfl⟩⟩)
          go_roundw
          case rel => exact ⟨i + 1, _, by omega, by go_num, hd', (k0.drewN _).setOther (by omega) _, (k1.drewN _).setOther (by omega) _, (k2.drewN _).setOther (by omega) _, (k3.drewN _).set i (divS S 65536), (below_drewN kb _).setCell (by show B ≤ B + 1 + 1 + 1; omega) _, by simpa [World.setCell] using ks⟩
          case measure => simp [intOf]; omega
    · obtain rfl : i = 3 := by omega
      have hp := Lib.hid hd.out.arr
      have G2 := Lib.hid k2
      go_wp2_with (first
        | (refine wpList_load_arr rfl 23 (.tmp 5) rfl rfl k3 Try.underlying23 Mx.hi3 ?_)
        | (refine wpList_store_arr rfl 23 (.tmp 4) (.tmp 39) rfl rfl rfl G2.out (arrN_size _ _) Mx.hi3 ?_))
      refine bodyPost_ret (v := .agg (arrN 3 p)) (results_cell_row rfl _ _ (B + 1 + 1) 23 _ _ _ rfl (holdsN_row G2.out p) Try.underlying23 rfl (by rw [arrN_size]; exact Mx.hi3)) rfl ?_
      exact ⟨by rw [HM.out, hp.out], by rw [HB.out]; exact below_setRow kb (by omega) _⟩
theorem rapply_any (m v : Nat → Int) (w : World) :
    Calls Try.prog 20 #[.agg (arrN 9 m), .agg (arrN 3 v)] w fun e w' => e = .returned (.agg (arrN 3 (applyM m v))) ∧ Below w.heap.size w w' := by
  by_cases h : okM m
  · exact rapply_ok m v w h
  · exact rapply_bad m v w h
end Go.Proofs.Yteehnbgkgdhgaaa.Mx
