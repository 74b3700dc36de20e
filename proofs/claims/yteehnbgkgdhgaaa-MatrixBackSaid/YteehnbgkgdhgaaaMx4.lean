/-
  Products of the reference, and its Check.
-/
import Derived.Test.YteehnbgkgdhgaaaMx3
import Derived.Deep.RegionHeld3
import Derived.IntWalk
namespace Go.Proofs.Yteehnbgkgdhgaaa.Mx
open Go.RowKit Go.Proofs.Yteehnbgkgdhgaaa.NM Go.Proofs.Yteehnbgkgdhgaaa.Spec Go.Proofs.YteehnbgkgdhgaaaW.PrintWords
set_option linter.unusedVariables false

set_option maxHeartbeats 1000000 in
theorem rcheck_any (m : Nat → Int) (w : World) :
    Calls Try.prog 27 #[.agg (arrN 9 m)] w fun e w' => e = .returned (.int .i64 (codeM m)) ∧ Below w.heap.size w w' := by
  have hh := holdsN_new w 22 9 m
  go_enter Try.func27, Try.ntmps27
  go_wp2_with fail
  go_loop [2, 3] (fun _ v6 => ∃ k : Nat, k ≤ 9 ∧ v6 = .int .i64 k ∧ Hid (∀ j, j < k → -1048576 ≤ m j ∧ m j ≤ 1048576)) (fun _ i => 9 - (intOf i).toNat)
  case atStart => exact ⟨0, by omega, rfl, fun j hj => absurd hj (by omega)⟩
  case round =>
    obtain ⟨k, hk, rfl, hrg⟩ := hrel
    by_cases hk9 : k < 9
    · have hc := hh.cell k hk9
      clear hh
      by_cases h1 : m k < -1048576
      · have hc : Hid (codeM m = 2) := by show _ = _; unfold codeM; rw [if_neg]; intro h; have := (h k hk9).1; omega
        go_wp2
        go_ret
        exact ⟨ret_int hc.out.symm, (Below.refl _ _).alloc (Nat.le_refl _) _⟩
      · by_cases h2 : 1048576 < m k
        · have hc : Hid (codeM m = 2) := by show _ = _; unfold codeM; rw [if_neg]; intro h; have := (h k hk9).2; omega
          go_wp2
          go_ret
          exact ⟨ret_int hc.out.symm, (Below.refl _ _).alloc (Nat.le_refl _) _⟩
        · have hrg' : Hid (∀ j, j < k + 1 → -1048576 ≤ m j ∧ m j ≤ 1048576) := by
            intro j hj
            by_cases he : j = k
            · subst he; omega
            · exact hrg.out j (by omega)
          go_wp2
          go_round
          case rel => exact ⟨k + 1, by omega, by go_num, hrg'⟩
          case measure => simp [intOf]; omega
    · obtain rfl : k = 9 := by omega
      have hc : Hid (codeM m = 0) := by show _ = _; unfold codeM; rw [if_pos]; exact hrg.out
      go_wp2
      go_ret
      exact ⟨ret_int hc.out.symm, (Below.refl _ _).alloc (Nat.le_refl _) _⟩

set_option maxHeartbeats 2000000 in
theorem rmul_bad (a b : Nat → Int) (w : World) (h : ¬ (okM a ∧ okM b)) :
    Calls Try.prog 28 #[.agg (arrN 9 a), .agg (arrN 9 b)] w fun e w' => e = .returned (.agg (arrN 9 (mulM a b))) ∧ Below w.heap.size w w' := by
  have HM : Hid (mulM a b = fun _ => 0) := by show _ = _; unfold mulM; rw [if_neg h]
  go_enter Try.func28, Try.ntmps28
  go_upto_region 2 with fail
  rw [zero9]
  have h0 : holdsN ((((w.alloc (.cells (arrN 9 a) 22)).alloc (.cells (arrN 9 b) 22)).alloc (.cells (arrN 9 (fun _ => 0)) 22)).alloc (.cells (arrN 9 (fun _ => 0)) 22)) (w.heap.size) 22 9 a := (((holdsN_new w 22 9 a).alloc (.cells (arrN 9 b) 22)).alloc (.cells (arrN 9 (fun _ => 0)) 22)).alloc (.cells (arrN 9 (fun _ => 0)) 22)
  have h1 : holdsN ((((w.alloc (.cells (arrN 9 a) 22)).alloc (.cells (arrN 9 b) 22)).alloc (.cells (arrN 9 (fun _ => 0)) 22)).alloc (.cells (arrN 9 (fun _ => 0)) 22)) (w.heap.size + 1) 22 9 b := by
    have := ((holdsN_new (w.alloc (.cells (arrN 9 a) 22)) 22 9 b).alloc (.cells (arrN 9 (fun _ => 0)) 22)).alloc (.cells (arrN 9 (fun _ => 0)) 22)
    simpa using this
  have h2 : holdsN ((((w.alloc (.cells (arrN 9 a) 22)).alloc (.cells (arrN 9 b) 22)).alloc (.cells (arrN 9 (fun _ => 0)) 22)).alloc (.cells (arrN 9 (fun _ => 0)) 22)) (w.heap.size + 1 + 1) 22 9 (fun _ => 0) := by
    have := (holdsN_new ((w.alloc (.cells (arrN 9 a) 22)).alloc (.cells (arrN 9 b) 22)) 22 9 (fun _ => 0)).alloc (.cells (arrN 9 (fun _ => 0)) 22)
    simpa using this
  have h3 : holdsN ((((w.alloc (.cells (arrN 9 a) 22)).alloc (.cells (arrN 9 b) 22)).alloc (.cells (arrN 9 (fun _ => 0)) 22)).alloc (.cells (arrN 9 (fun _ => 0)) 22)) (w.heap.size + 1 + 1 + 1) 22 9 (fun _ => 0) := by
    have := holdsN_new (((w.alloc (.cells (arrN 9 a) 22)).alloc (.cells (arrN 9 b) 22)).alloc (.cells (arrN 9 (fun _ => 0)) 22)) 22 9 (fun _ => 0)
    simpa using this
  have hb : Below w.heap.size w ((((w.alloc (.cells (arrN 9 a) 22)).alloc (.cells (arrN 9 b) 22)).alloc (.cells (arrN 9 (fun _ => 0)) 22)).alloc (.cells (arrN 9 (fun _ => 0)) 22)) := ((((Below.refl _ _).alloc (Nat.le_refl _) _).alloc (by simp) _).alloc (by simp; omega) _).alloc (by simp; omega) _
  have hs : w.heap.size + 1 + 1 + 1 < ((((w.alloc (.cells (arrN 9 a) 22)).alloc (.cells (arrN 9 b) 22)).alloc (.cells (arrN 9 (fun _ => 0)) 22)).alloc (.cells (arrN 9 (fun _ => 0)) 22)).heap.size := by simp
  generalize ((((w.alloc (.cells (arrN 9 a) 22)).alloc (.cells (arrN 9 b) 22)).alloc (.cells (arrN 9 (fun _ => 0)) 22)).alloc (.cells (arrN 9 (fun _ => 0)) 22)) = wc at *
  generalize hB : w.heap.size = B at *
  have HB := Lib.hid hB
  clear hB
  by_cases ha : okM a
  · have hc := codeM_ok ha
    have hc2 := codeM_bad (m := b) (fun hb => h ⟨ha, hb⟩)
    go_wp2_with (refine wpList_load_arr rfl 22 (.tmp 2) rfl rfl h0 Try.underlying22 hi9 ?_)
    refine (rcheck_any a _).mono ?_; rintro e w1 ⟨rfl, b1⟩
    have g1 := h1.kept b1 (by omega)
    have g2 := h2.kept b1 (by omega)
    have g3 := h3.kept b1 (by omega)
    have gb := hb.trans (b1.mono (by omega))
    have gs := Nat.lt_of_lt_of_le hs b1.size
    clear h0 h1 h2 h3 hb hs b1
    go_wp2_with (refine wpList_load_arr_g rfl 22 (.tmp 3) rfl rfl g1 Try.underlying22 hi9 ?_)
    refine (rcheck_any b _).mono ?_; rintro e w2 ⟨rfl, b2⟩
    have G2 := Lib.hid (g2.kept b2 (by omega))
    have G3 := Lib.hid (g3.kept b2 (by omega))
    have GB := gb.trans (b2.mono (by omega))
    clear g1 g2 g3 gb gs b2
    go_wp2_with (first
      | (refine wpList_load_arr rfl 22 (.tmp 5) rfl rfl G3.out Try.underlying22 hi9 ?_)
      | (refine wpList_store_arr rfl 22 (.tmp 4) (.tmp 16) rfl rfl rfl G2.out (arrN_size _ _) hi9 ?_))
    refine bodyPost_ret (v := .agg (arrN 9 fun _ => 0)) (results_cell_row rfl _ _ (B + 1 + 1) 22 _ _ _ rfl (holdsN_row G2.out _) Try.underlying22 rfl (by rw [arrN_size]; exact hi9)) rfl ?_
    exact ⟨by rw [HM.out], by rw [HB.out]; exact below_setRow GB (by omega) _⟩
  · have hc := codeM_bad ha
    go_wp2_with (refine wpList_load_arr rfl 22 (.tmp 2) rfl rfl h0 Try.underlying22 hi9 ?_)
    refine (rcheck_any a _).mono ?_; rintro e w1 ⟨rfl, b1⟩
    have G2 := Lib.hid (h2.kept b1 (by omega))
    have G3 := Lib.hid (h3.kept b1 (by omega))
    have GB := hb.trans (b1.mono (by omega))
    clear h0 h1 h2 h3 hb hs b1
    go_wp2_with (first
      | (refine wpList_load_arr rfl 22 (.tmp 5) rfl rfl G3.out Try.underlying22 hi9 ?_)
      | (refine wpList_store_arr rfl 22 (.tmp 4) (.tmp 16) rfl rfl rfl G2.out (arrN_size _ _) hi9 ?_))
    refine bodyPost_ret (v := .agg (arrN 9 fun _ => 0)) (results_cell_row rfl _ _ (B + 1 + 1) 22 _ _ _ rfl (holdsN_row G2.out _) Try.underlying22 rfl (by rw [arrN_size]; exact hi9)) rfl ?_
    exact ⟨by rw [HM.out], by rw [HB.out]; exact below_setRow GB (by omega) _⟩

set_option maxHeartbeats 2000000 in
theorem rmul_ok (a b : Nat → Int) (w : World) (ha : okM a) (hb' : okM b) :
    Calls Try.prog 28 #[.agg (arrN 9 a), .agg (arrN 9 b)] w fun e w' => e = .returned (.agg (arrN 9 (mulM a b))) ∧ Below w.heap.size w w' := by
  have HM : Hid (mulM a b = prodM a b) := by show _ = _; unfold mulM; rw [if_pos ⟨ha, hb'⟩]
  have hca := codeM_ok ha
  have hcb := codeM_ok hb'
  have HDB := Lib.hid (dot_bound ha hb')
  have HA := Lib.hid ha
  have HBB := Lib.hid hb'
  clear ha hb'
  go_enter Try.func28, Try.ntmps28
  go_upto_region 2 with fail
  rw [zero9]
  have h0 : holdsN ((((w.alloc (.cells (arrN 9 a) 22)).alloc (.cells (arrN 9 b) 22)).alloc (.cells (arrN 9 (fun _ => 0)) 22)).alloc (.cells (arrN 9 (fun _ => 0)) 22)) (w.heap.size) 22 9 a := (((holdsN_new w 22 9 a).alloc (.cells (arrN 9 b) 22)).alloc (.cells (arrN 9 (fun _ => 0)) 22)).alloc (.cells (arrN 9 (fun _ => 0)) 22)
  have h1 : holdsN ((((w.alloc (.cells (arrN 9 a) 22)).alloc (.cells (arrN 9 b) 22)).alloc (.cells (arrN 9 (fun _ => 0)) 22)).alloc (.cells (arrN 9 (fun _ => 0)) 22)) (w.heap.size + 1) 22 9 b := by
    have := ((holdsN_new (w.alloc (.cells (arrN 9 a) 22)) 22 9 b).alloc (.cells (arrN 9 (fun _ => 0)) 22)).alloc (.cells (arrN 9 (fun _ => 0)) 22)
    simpa using this
  have h2 : holdsN ((((w.alloc (.cells (arrN 9 a) 22)).alloc (.cells (arrN 9 b) 22)).alloc (.cells (arrN 9 (fun _ => 0)) 22)).alloc (.cells (arrN 9 (fun _ => 0)) 22)) (w.heap.size + 1 + 1) 22 9 (fun _ => 0) := by
    have := (holdsN_new ((w.alloc (.cells (arrN 9 a) 22)).alloc (.cells (arrN 9 b) 22)) 22 9 (fun _ => 0)).alloc (.cells (arrN 9 (fun _ => 0)) 22)
    simpa using this
  have h3 : holdsN ((((w.alloc (.cells (arrN 9 a) 22)).alloc (.cells (arrN 9 b) 22)).alloc (.cells (arrN 9 (fun _ => 0)) 22)).alloc (.cells (arrN 9 (fun _ => 0)) 22)) (w.heap.size + 1 + 1 + 1) 22 9 (fun _ => 0) := by
    have := holdsN_new (((w.alloc (.cells (arrN 9 a) 22)).alloc (.cells (arrN 9 b) 22)).alloc (.cells (arrN 9 (fun _ => 0)) 22)) 22 9 (fun _ => 0)
    simpa using this
  have hb : Below w.heap.size w ((((w.alloc (.cells (arrN 9 a) 22)).alloc (.cells (arrN 9 b) 22)).alloc (.cells (arrN 9 (fun _ => 0)) 22)).alloc (.cells (arrN 9 (fun _ => 0)) 22)) := ((((Below.refl _ _).alloc (Nat.le_refl _) _).alloc (by simp) _).alloc (by simp; omega) _).alloc (by simp; omega) _
  have hs : w.heap.size + 1 + 1 + 1 < ((((w.alloc (.cells (arrN 9 a) 22)).alloc (.cells (arrN 9 b) 22)).alloc (.cells (arrN 9 (fun _ => 0)) 22)).alloc (.cells (arrN 9 (fun _ => 0)) 22)).heap.size := by simp
  generalize ((((w.alloc (.cells (arrN 9 a) 22)).alloc (.cells (arrN 9 b) 22)).alloc (.cells (arrN 9 (fun _ => 0)) 22)).alloc (.cells (arrN 9 (fun _ => 0)) 22)) = wc at *
  generalize hB : w.heap.size = B at *
  have HB := Lib.hid hB
  clear hB
  go_wp2_with (refine wpList_load_arr rfl 22 (.tmp 2) rfl rfl h0 Try.underlying22 hi9 ?_)
  refine (rcheck_any a _).mono ?_; rintro e w1 ⟨rfl, b1⟩
  have g0 := h0.kept b1 (by omega)
  have g1 := h1.kept b1 (by omega)
  have g2 := h2.kept b1 (by omega)
  have g3 := h3.kept b1 (by omega)
  have gb := hb.trans (b1.mono (by omega))
  have gs := Nat.lt_of_lt_of_le hs b1.size
  clear h0 h1 h2 h3 hb hs b1
  go_wp2_with (refine wpList_load_arr_g rfl 22 (.tmp 3) rfl rfl g1 Try.underlying22 hi9 ?_)
  refine (rcheck_any b _).mono ?_; rintro e w2 ⟨rfl, b2⟩
  have h0 := g0.kept b2 (by omega)
  have h1 := g1.kept b2 (by omega)
  have h2 := g2.kept b2 (by omega)
  have h3 := g3.kept b2 (by omega)
  have hb := gb.trans (b2.mono (by omega))
  have hs := Nat.lt_of_lt_of_le gs b2.size
  clear g0 g1 g2 g3 gb gs b2 hca
  go_wp2_with fail
  clear hcb
  go_loopw [6, 7] (fun v19 _ wr => ∃ (i : Nat) (p : Nat → Int), i ≤ 3 ∧ v19 = .int .i64 i ∧ Hid (Done i 0 p posR (fun i j => divS (dot a b i j 3) 65536)) ∧ holdsN wr B 22 9 a ∧ holdsN wr (B + 1) 22 9 b ∧ holdsN wr (B + 1 + 1) 22 9 (fun _ => 0) ∧ holdsN wr (B + 1 + 1 + 1) 22 9 p ∧ Below B w wr ∧ B + 1 + 1 + 1 < wr.heap.size) (fun v _ _ => 3 - (intOf v).toNat)
  case atStart => exact ⟨0, fun _ => 0, by omega, rfl, Done.zero _ _ _, h0, h1, h2, h3, hb, hs⟩
  case round =>
    obtain ⟨i, p, hi, rfl, hd, k0, k1, k2, k3, kb, ks⟩ := hrel
    clear h0 h1 h2 h3 hb hs
    by_cases hi3 : i < 3
    · go_wp2_with fail
      obtain ⟨wo, hwo⟩ : ∃ wo : World, wo = wr := ⟨_, rfl⟩
      subst hwo
      rw [show decide ((i : Int) < 3) = true from decide_eq_true (by omega)]
      go_loopw [7] (fun v22 wr => ∃ (j : Nat) (p : Nat → Int), j ≤ 3 ∧ v22 = .int .i64 j ∧ Hid (Done i j p posR (fun i j => divS (dot a b i j 3) 65536)) ∧ holdsN wr B 22 9 a ∧ holdsN wr (B + 1) 22 9 b ∧ holdsN wr (B + 1 + 1) 22 9 (fun _ => 0) ∧ holdsN wr (B + 1 + 1 + 1) 22 9 p ∧ Below B w wr ∧ B + 1 + 1 + 1 < wr.heap.size) (fun v _ => 3 - (intOf v).toNat)
      case atStart => exact ⟨0, p, by omega, rfl, hd, k0, k1, k2, k3, kb, ks⟩
      case round =>
        obtain ⟨j, p, hj, rfl, hd, k0, k1, k2, k3, kb, ks⟩ := hrel
        by_cases hj3 : j < 3
        · have c0 := k0.cell (3 * i) (by omega)
          have c1 := k0.cell (3 * i + 1) (by omega)
          have c2 := k0.cell (3 * i + 2) (by omega)
          have d0 := k1.cell j (by omega)
          have d1 := k1.cell (3 + j) (by omega)
          have d2 := k1.cell (6 + j) (by omega)
          have t0 := k3.cell (3 * i + j) (by omega)
          have t1 := k3.free (3 * i + j)
          have hd' : Hid (Done i (j + 1) (upd p (posR i j) (divS (dot a b i j 3) 65536)) posR (fun i j => divS (dot a b i j 3) 65536)) := hd.out.step hi3 hj3 (by unfold posR; omega)
          have p0 := mul20 (HA.out (3 * i) (by omega)) (HBB.out j (by omega))
          have p1 := mul20 (HA.out (3 * i + 1) (by omega)) (HBB.out (3 + j) (by omega))
          have p2 := mul20 (HA.out (3 * i + 2) (by omega)) (HBB.out (6 + j) (by omega))
          have hS : dot a b i j 3 = a (3 * i) * b j + a (3 * i + 1) * b (3 + j) + a (3 * i + 2) * b (6 + j) := by
            simp [dot]
          rw [hS] at hd'
          clear hS
          generalize a (3 * i) = x0 at *
          generalize a (3 * i + 1) = x1 at *
          generalize a (3 * i + 2) = x2 at *
          generalize b j = y0 at *
          generalize b (3 + j) = y1 at *
          generalize b (6 + j) = y2 at *
          have hdv := fun w => rdiv_any (x0 * y0 + x1 * y1 + x2 * y2) 65536 w (by unfold I64; omega) (by unfold I64; omega)
          have HDV := Lib.hid hdv
          clear hdv
          generalize divS (x0 * y0 + x1 * y1 + x2 * y2) 65536 = dv at *
          obtain ⟨p00, p01⟩ := p0
          obtain ⟨p10, p11⟩ := p1
          obtain ⟨p20, p21⟩ := p2
          go_wp2_with fail
          have w1 : IntKind.i64.wrap (3 * (i : Int)) = 3 * (i : Int) := IntWalk.i64_in _ (by omega)
          have w2 : IntKind.i64.wrap (3 * (i : Int) + 1) = 3 * (i : Int) + 1 := IntWalk.i64_in _ (by omega)
          have w3 : IntKind.i64.wrap (3 * (i : Int) + 2) = 3 * (i : Int) + 2 := IntWalk.i64_in _ (by omega)
          have w4 : IntKind.i64.wrap (3 * (i : Int) + (j : Int)) = 3 * (i : Int) + (j : Int) := IntWalk.i64_in _ (by omega)
          have w5 : IntKind.i64.wrap (3 + (j : Int)) = 3 + (j : Int) := IntWalk.i64_in _ (by omega)
          have w6 : IntKind.i64.wrap (6 + (j : Int)) = 6 + (j : Int) := IntWalk.i64_in _ (by omega)
          have w7 : IntKind.i64.wrap (x0 * y0) = x0 * y0 := IntWalk.i64_in _ (by omega)
          have w8 : IntKind.i64.wrap (x1 * y1) = x1 * y1 := IntWalk.i64_in _ (by omega)
          have w9 : IntKind.i64.wrap (x2 * y2) = x2 * y2 := IntWalk.i64_in _ (by omega)
          have w10 : IntKind.i64.wrap (x0 * y0 + x1 * y1) = x0 * y0 + x1 * y1 := IntWalk.i64_in _ (by omega)
          have w11 : IntKind.i64.wrap (x0 * y0 + x1 * y1 + x2 * y2) = x0 * y0 + x1 * y1 + x2 * y2 := IntWalk.i64_in _ (by omega)
          have x0a : (0 : Int) ≤ 3 * (i : Int) := by omega
          have x0b : 3 * (i : Int) < 9 := by omega
          have x0c : (3 * (i : Int)).toNat = 3 * i := by omega
          have x1a : (0 : Int) ≤ 3 * (i : Int) + 1 := by omega
          have x1b : 3 * (i : Int) + 1 < 9 := by omega
          have x1c : (3 * (i : Int) + 1).toNat = 3 * i + 1 := by omega
          have x2a : (0 : Int) ≤ 3 * (i : Int) + 2 := by omega
          have x2b : 3 * (i : Int) + 2 < 9 := by omega
          have x2c : (3 * (i : Int) + 2).toNat = 3 * i + 2 := by omega
          have x3a : (0 : Int) ≤ (j : Int) := by omega
          have x3b : (j : Int) < 9 := by omega
          have x3c : ((j : Int)).toNat = j := by omega
          have x4a : (0 : Int) ≤ 3 + (j : Int) := by omega
          have x4b : 3 + (j : Int) < 9 := by omega
          have x4c : (3 + (j : Int)).toNat = 3 + j := by omega
          have x5a : (0 : Int) ≤ 6 + (j : Int) := by omega
          have x5b : 6 + (j : Int) < 9 := by omega
          have x5c : (6 + (j : Int)).toNat = 6 + j := by omega
          have x6a : (0 : Int) ≤ 3 * (i : Int) + (j : Int) := by omega
          have x6b : 3 * (i : Int) + (j : Int) < 9 := by omega
          have x6c : (3 * (i : Int) + (j : Int)).toNat = 3 * i + j := by omega
          go_region_held3 (fun w' => w'.cell? ⟨B, 3 * i, none⟩ = some (.int .i64 x0) ∧ w'.cell? ⟨B, 3 * i + 1, none⟩ = some (.int .i64 x1) ∧ w'.cell? ⟨B, 3 * i + 2, none⟩ = some (.int .i64 x2) ∧ w'.cell? ⟨B + 1, j, none⟩ = some (.int .i64 y0) ∧ w'.cell? ⟨B + 1, 3 + j, none⟩ = some (.int .i64 y1) ∧ w'.cell? ⟨B + 1, 6 + j, none⟩ = some (.int .i64 y2)) (first | go_keep | (refine ⟨?_, ?_, ?_, ?_, ?_, ?_⟩ <;> (rw [World.cell?_setCell_other _ _ _ _ (by intro h; injection h with h; omega)]; simp only [World.cell?_drewN]; assumption))) (first | (go_at_call 34; refine (HDV.out _).mono ?_; rintro e w' ⟨rfl, ⟨nd, rfl⟩⟩))
          clear w1 w2 w3 w4 w5 w6 w7 w8 w9 w10 w11 x0a x0b x0c x1a x1b x1c x2a x2b x2c x3a x3b x3c x4a x4b x4c x5a x5b x5c x6a x6b x6c
          go_wp2
          go_roundw
          case rel => exact ⟨j + 1, _, by omega, by go_num, hd', (k0.drewN _).setOther (by omega) _, (k1.drewN _).setOther (by omega) _, (k2.drewN _).setOther (by omega) _, (k3.drewN _).set (3 * i + j) dv, (below_drewN kb _).setCell (by show B ≤ B + 1 + 1 + 1; omega) _, by simpa [World.setCell] using ks⟩
          case measure => simp [intOf]; omega
        · obtain rfl : j = 3 := by omega
          have hd' := Lib.hid hd.out.next
          go_wp2
          go_roundw
          case rel => exact ⟨i + 1, p, by omega, by go_num, hd', k0, k1, k2, k3, kb, ks⟩
          case measure => simp [intOf]; omega
    · obtain rfl : i = 3 := by omega
      have hp := Lib.hid (mul_end hd.out)
      have G2 := Lib.hid k2
      go_wp2_with (first
        | (refine wpList_load_arr rfl 22 (.tmp 5) rfl rfl k3 Try.underlying22 hi9 ?_)
        | (refine wpList_store_arr rfl 22 (.tmp 4) (.tmp 61) rfl rfl rfl G2.out (arrN_size _ _) hi9 ?_))
      refine bodyPost_ret (v := .agg (arrN 9 p)) (results_cell_row rfl _ _ (B + 1 + 1) 22 _ _ _ rfl (holdsN_row G2.out p) Try.underlying22 rfl (by rw [arrN_size]; exact hi9)) rfl ?_
      exact ⟨by rw [HM.out, hp.out], by rw [HB.out]; exact below_setRow kb (by omega) _⟩
theorem rmul_any' (a b : Nat → Int) (w : World) :
    Calls Try.prog 28 #[.agg (arrN 9 a), .agg (arrN 9 b)] w fun e w' => e = .returned (.agg (arrN 9 (mulM a b))) ∧ Below w.heap.size w w' := by
  by_cases h : okM a ∧ okM b
  · exact rmul_ok a b w h.1 h.2
  · exact rmul_bad a b w h
end Go.Proofs.Yteehnbgkgdhgaaa.Mx
