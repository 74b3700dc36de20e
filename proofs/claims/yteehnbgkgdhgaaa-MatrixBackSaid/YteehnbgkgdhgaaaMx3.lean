/-
  Products: matrix.Mul.
-/
import Derived.Test.YteehnbgkgdhgaaaMx2
import Derived.Test.YteehnbgkgdhgaaaNs5
namespace Go.Proofs.Yteehnbgkgdhgaaa.Mx
open Go.RowKit Go.Proofs.Yteehnbgkgdhgaaa.NM Go.Proofs.Yteehnbgkgdhgaaa.Spec Go.Proofs.YteehnbgkgdhgaaaW.PrintWords
set_option linter.unusedVariables false

/-- the sum of the first k products of a row and a column -/
def dot (a b : Nat → Int) (i j : Nat) : Nat → Int
  | 0 => 0
  | k + 1 => dot a b i j k + a (3 * i + k) * b (3 * k + j)
def prodM (a b : Nat → Int) : Nat → Int := fun k => divS (dot a b (k / 3) (k % 3) 3) 65536
def mulM (a b : Nat → Int) : Nat → Int := if okM a ∧ okM b then prodM a b else fun _ => 0

theorem mul20 {x y : Int} (hx : -1048576 ≤ x ∧ x ≤ 1048576) (hy : -1048576 ≤ y ∧ y ≤ 1048576) : -1099511627776 ≤ x * y ∧ x * y ≤ 1099511627776 := by
  have h1 : (x * y).natAbs = x.natAbs * y.natAbs := Int.natAbs_mul x y
  have h2 : x.natAbs * y.natAbs ≤ 1048576 * 1048576 := Nat.mul_le_mul (by omega) (by omega)
  omega
theorem dot_bound {a b : Nat → Int} (ha : okM a) (hb : okM b) (i j : Nat) (hi : i < 3) (hj : j < 3) : ∀ k : Nat, k ≤ 3 → -(1099511627776 * (k : Int)) ≤ dot a b i j k ∧ dot a b i j k ≤ 1099511627776 * (k : Int)
  | 0, _ => by simp [dot]
  | k + 1, hk => by
    have ih := dot_bound ha hb i j hi hj k (by omega)
    have := mul20 (ha (3 * i + k) (by omega)) (hb (3 * k + j) (by omega))
    simp only [dot]
    omega
theorem codeM_ok {m : Nat → Int} (h : okM m) : codeM m = 0 := by unfold codeM; rw [if_pos h]
theorem codeM_bad {m : Nat → Int} (h : ¬ okM m) : codeM m = 2 := by unfold codeM; rw [if_neg h]

set_option maxHeartbeats 2000000 in
theorem mul_bad (a b : Nat → Int) (w : World) (h : ¬ (okM a ∧ okM b)) :
    Calls Try.prog 24 #[.agg (arrN 9 a), .agg (arrN 9 b)] w fun e w' => e = .returned (.agg (arrN 9 (mulM a b))) ∧ Below w.heap.size w w' := by
  have HM : Hid (mulM a b = fun _ => 0) := by show _ = _; unfold mulM; rw [if_neg h]
  go_enter Try.func24, Try.ntmps24
  go_upto_region 2 with fail
  rw [zero9]
  have h0 : holdsN ((((w.alloc (.cells (arrN 9 a) 22)).alloc (.cells (arrN 9 b) 22)).alloc (.cells (arrN 9 (fun _ => 0)) 22)).alloc (.cells (arrN 9 (fun _ => 0)) 22)) (w.heap.size) 22 9 a := (((holdsN_new w 22 9 a).alloc (.cells (arrN 9 b) 22)).alloc (.cells (arrN 9 (fun _ => 0)) 22)).alloc (.cells (arrN 9 (fun _ => 0)) 22)
  have h1 : holdsN ((((w.alloc (.cells (arrN 9 a) 22)).alloc (.cells (arrN 9 b) 22)).alloc (.cells (arrN 9 (fun _ => 0)) 22)).alloc (.cells (arrN 9 (fun _ => 0)) 22)) (w.heap.size + 1) 22 9 b := by
    have := ((holdsN_new (w.alloc (.cells (arrN 9 a) 22)) 22 9 b).alloc (.cells (arrN 9 (fun _ => 0)) 22)).alloc (.cells (arrN 9 (fun _ => 0)) 22)
    simpa using this
  have h2 : holdsN ((((w.alloc (.cells (arrN 9 a) 22)).alloc (.cells (arrN 9 b) 22)).alloc (.cells (arrN 9 (fun _ => 0)) 22)).alloc (.cells (arrN 9 (fun _ => 0)) 22)) (w.heap.size + 1 + 1) 22 9 (fun _ => 0) := by
    have := (holdsN_new ((w.alloc (.cells (arrN 9 a) 22)).alloc (.cells (arrN 9 b) 22)) 22 9 (fun _ => 0)).alloc (.cells (arrN 9 (fun _ => 0)) 22)
    simpa using this
  have h3 : holdsN ((((w.alloc (.cells (arrN 9 a) 22)).alloc (.cells (arrN 9 b) 22)).alloc (.cells (arrN 9 (fun _ => 0)) 22)).alloc (.cells (arrN 9 (fun _ => 0)) 22)) (w.heap.size + 1 + 1 + 1) 22 9 (fun _ => 0) := by
    have := holdsN_new (((w.alloc (.cells (arrN 9 a) 22)).alloc (.cells (arrN 9 b) 22)).alloc (.cells (arrN 9 (fun _ => 0)) 22)) 22 9 (fun _ => 0)
    simpa using this
  have hb : Below w.heap.size w ((((w.alloc (.cells (arrN 9 a) 22)).alloc (.cells (arrN 9 b) 22)).alloc (.cells (arrN 9 (fun _ => 0)) 22)).alloc (.cells (arrN 9 (fun _ => 0)) 22)) := ((((Below.refl _ _).alloc (Nat.le_refl _) _).alloc (by simp) _).alloc (by simp; omega) _).alloc (by simp; omega) _
  have hs : w.heap.size + 1 + 1 + 1 < ((((w.alloc (.cells (arrN 9 a) 22)).alloc (.cells (arrN 9 b) 22)).alloc (.cells (arrN 9 (fun _ => 0)) 22)).alloc (.cells (arrN 9 (fun _ => 0)) 22)).heap.size := by simp
  generalize ((((w.alloc (.cells (arrN 9 a) 22)).alloc (.cells (arrN 9 b) 22)).alloc (.cells (arrN 9 (fun _ => 0)) 22)).alloc (.cells (arrN 9 (fun _ => 0)) 22)) = wc at *
  generalize hB : w.heap.size = B at *
  have HB := Lib.hid hB
  clear hB
  by_cases ha : okM a
  · have hc := codeM_ok ha
    have hc2 := codeM_bad (m := b) (fun hb => h ⟨ha, hb⟩)
    go_wp2_with (refine wpList_load_arr rfl 22 (.tmp 2) rfl rfl h0 Try.underlying22 hi9 ?_)
    refine (check_any a _).mono ?_; rintro e w1 ⟨rfl, b1⟩
    have g1 := h1.kept b1 (by omega)
    have g2 := h2.kept b1 (by omega)
    have g3 := h3.kept b1 (by omega)
    have gb := hb.trans (b1.mono (by omega))
    have gs := Nat.lt_of_lt_of_le hs b1.size
    clear h0 h1 h2 h3 hb hs b1
    go_wp2_with (refine wpList_load_arr_g rfl 22 (.tmp 3) rfl rfl g1 Try.underlying22 hi9 ?_)
    refine (check_any b _).mono ?_; rintro e w2 ⟨rfl, b2⟩
    have G2 := Lib.hid (g2.kept b2 (by omega))
    have G3 := Lib.hid (g3.kept b2 (by omega))
    have GB := gb.trans (b2.mono (by omega))
    clear g1 g2 g3 gb gs b2
    go_wp2_with (first
      | (refine wpList_load_arr rfl 22 (.tmp 5) rfl rfl G3.out Try.underlying22 hi9 ?_)
      | (refine wpList_store_arr rfl 22 (.tmp 4) (.tmp 18) rfl rfl rfl G2.out (arrN_size _ _) hi9 ?_))
    refine bodyPost_ret (v := .agg (arrN 9 fun _ => 0)) (results_cell_row rfl _ _ (B + 1 + 1) 22 _ _ _ rfl (holdsN_row G2.out _) Try.underlying22 rfl (by rw [arrN_size]; exact hi9)) rfl ?_
    exact ⟨by rw [HM.out], by rw [HB.out]; exact below_setRow GB (by omega) _⟩
  · have hc := codeM_bad ha
    go_wp2_with (refine wpList_load_arr rfl 22 (.tmp 2) rfl rfl h0 Try.underlying22 hi9 ?_)
    refine (check_any a _).mono ?_; rintro e w1 ⟨rfl, b1⟩
    have G2 := Lib.hid (h2.kept b1 (by omega))
    have G3 := Lib.hid (h3.kept b1 (by omega))
    have GB := hb.trans (b1.mono (by omega))
    clear h0 h1 h2 h3 hb hs b1
    go_wp2_with (first
      | (refine wpList_load_arr rfl 22 (.tmp 5) rfl rfl G3.out Try.underlying22 hi9 ?_)
      | (refine wpList_store_arr rfl 22 (.tmp 4) (.tmp 18) rfl rfl rfl G2.out (arrN_size _ _) hi9 ?_))
    refine bodyPost_ret (v := .agg (arrN 9 fun _ => 0)) (results_cell_row rfl _ _ (B + 1 + 1) 22 _ _ _ rfl (holdsN_row G2.out _) Try.underlying22 rfl (by rw [arrN_size]; exact hi9)) rfl ?_
    exact ⟨by rw [HM.out], by rw [HB.out]; exact below_setRow GB (by omega) _⟩

theorem mul_end {a b p : Nat → Int} (h : Done 3 0 p posR (fun i j => divS (dot a b i j 3) 65536)) : arrN 9 p = arrN 9 (prodM a b) := by
  refine arrN_congr fun k hk => ?_
  have := h (k / 3) (k % 3) (by omega) (by omega) (by omega)
  rw [show posR (k / 3) (k % 3) = k by unfold posR; omega] at this
  exact this

set_option maxHeartbeats 2000000 in
theorem mul_ok (a b : Nat → Int) (w : World) (ha : okM a) (hb' : okM b) :
    Calls Try.prog 24 #[.agg (arrN 9 a), .agg (arrN 9 b)] w fun e w' => e = .returned (.agg (arrN 9 (mulM a b))) ∧ Below w.heap.size w w' := by
  have HM : Hid (mulM a b = prodM a b) := by show _ = _; unfold mulM; rw [if_pos ⟨ha, hb'⟩]
  have hca := codeM_ok ha
  have hcb := codeM_ok hb'
  have HDB := Lib.hid (dot_bound ha hb')
  have HA := Lib.hid ha
  have HBB := Lib.hid hb'
  clear ha hb'
  go_enter Try.func24, Try.ntmps24
  go_upto_region 2 with fail
  rw [zero9]
  have h0 : holdsN ((((w.alloc (.cells (arrN 9 a) 22)).alloc (.cells (arrN 9 b) 22)).alloc (.cells (arrN 9 (fun _ => 0)) 22)).alloc (.cells (arrN 9 (fun _ => 0)) 22)) (w.heap.size) 22 9 a := (((holdsN_new w 22 9 a).alloc (.cells (arrN 9 b) 22)).alloc (.cells (arrN 9 (fun _ => 0)) 22)).alloc (.cells (arrN 9 (fun _ => 0)) 22)
  have h1 : holdsN ((((w.alloc (.cells (arrN 9 a) 22)).alloc (.cells (arrN 9 b) 22)).alloc (.cells (arrN 9 (fun _ => 0)) 22)).alloc (.cells (arrN 9 (fun _ => 0)) 22)) (w.heap.size + 1) 22 9 b := by
    have := ((holdsN_new (w.alloc (.cells (arrN 9 a) 22)) 22 9 b).alloc (.cells (arrN 9 (fun _ => 0)) 22)).alloc (.cells (arrN 9 (fun _ => 0)) 22)
    simpa using this
  have h2 : holdsN ((((w.alloc (.cells (arrN 9 a) 22)).alloc (.cells (arrN 9 b) 22)).alloc (.cells (arrN 9 (fun _ => 0)) 22)).alloc (.cells (arrN 9 (fun _ => 0)) 22)) (w.heap.size + 1 + 1) 22 9 (fun _ => 0) := by
    have := (holdsN_new ((w.alloc (.cells (arrN 9 a) 22)).alloc (.cells (arrN 9 b) 22)) 22 9 (fun _ => 0)).alloc (.cells (arrN 9 (fun _ => 0)) 22)
    simpa using this
  have h3 : holdsN ((((w.alloc (.cells (arrN 9 a) 22)).alloc (.cells (arrN 9 b) 22)).alloc (.cells (arrN 9 (fun _ => 0)) 22)).alloc (.cells (arrN 9 (fun _ => 0)) 22)) (w.heap.size + 1 + 1 + 1) 22 9 (fun _ => 0) := by
    have := holdsN_new (((w.alloc (.cells (arrN 9 a) 22)).alloc (.cells (arrN 9 b) 22)).alloc (.cells (arrN 9 (fun _ => 0)) 22)) 22 9 (fun _ => 0)
    simpa using this
  have hb : Below w.heap.size w ((((w.alloc (.cells (arrN 9 a) 22)).alloc (.cells (arrN 9 b) 22)).alloc (.cells (arrN 9 (fun _ => 0)) 22)).alloc (.cells (arrN 9 (fun _ => 0)) 22)) := ((((Below.refl _ _).alloc (Nat.le_refl _) _).alloc (by simp) _).alloc (by simp; omega) _).alloc (by simp; omega) _
  have hs : w.heap.size + 1 + 1 + 1 < ((((w.alloc (.cells (arrN 9 a) 22)).alloc (.cells (arrN 9 b) 22)).alloc (.cells (arrN 9 (fun _ => 0)) 22)).alloc (.cells (arrN 9 (fun _ => 0)) 22)).heap.size := by simp
  generalize ((((w.alloc (.cells (arrN 9 a) 22)).alloc (.cells (arrN 9 b) 22)).alloc (.cells (arrN 9 (fun _ => 0)) 22)).alloc (.cells (arrN 9 (fun _ => 0)) 22)) = wc at *
  generalize hB : w.heap.size = B at *
  have HB := Lib.hid hB
  clear hB
  go_wp2_with (refine wpList_load_arr rfl 22 (.tmp 2) rfl rfl h0 Try.underlying22 hi9 ?_)
  refine (check_any a _).mono ?_; rintro e w1 ⟨rfl, b1⟩
  have g0 := h0.kept b1 (by omega)
  have g1 := h1.kept b1 (by omega)
  have g2 := h2.kept b1 (by omega)
  have g3 := h3.kept b1 (by omega)
  have gb := hb.trans (b1.mono (by omega))
  have gs := Nat.lt_of_lt_of_le hs b1.size
  clear h0 h1 h2 h3 hb hs b1
  go_wp2_with (refine wpList_load_arr_g rfl 22 (.tmp 3) rfl rfl g1 Try.underlying22 hi9 ?_)
  refine (check_any b _).mono ?_; rintro e w2 ⟨rfl, b2⟩
  have h0 := g0.kept b2 (by omega)
  have h1 := g1.kept b2 (by omega)
  have h2 := g2.kept b2 (by omega)
  have h3 := g3.kept b2 (by omega)
  have hb := gb.trans (b2.mono (by omega))
  have hs := Nat.lt_of_lt_of_le gs b2.size
  clear g0 g1 g2 g3 gb gs b2 hca
  go_wp2_with fail
  clear hcb
  go_loopw [19] (fun v19 wr => ∃ (i : Nat) (p : Nat → Int), i ≤ 3 ∧ v19 = .int .i64 i ∧ Hid (Done i 0 p posR (fun i j => divS (dot a b i j 3) 65536)) ∧ holdsN wr B 22 9 a ∧ holdsN wr (B + 1) 22 9 b ∧ holdsN wr (B + 1 + 1) 22 9 (fun _ => 0) ∧ holdsN wr (B + 1 + 1 + 1) 22 9 p ∧ Below B w wr ∧ B + 1 + 1 + 1 < wr.heap.size) (fun v _ => 3 - (intOf v).toNat)
  case atStart => exact ⟨0, fun _ => 0, by omega, rfl, Done.zero _ _ _, h0, h1, h2, h3, hb, hs⟩
  case round =>
    obtain ⟨i, p, hi, rfl, hd, k0, k1, k2, k3, kb, ks⟩ := hrel
    clear h0 h1 h2 h3 hb hs
    by_cases hi3 : i < 3
    · go_wp2_with fail
      obtain ⟨wo, hwo⟩ : ∃ wo : World, wo = wr := ⟨_, rfl⟩
      subst hwo
      rw [show decide ((i : Int) < 3) = true from decide_eq_true (by omega)]
      go_loopw [22] (fun v22 wr => ∃ (j : Nat) (p : Nat → Int), j ≤ 3 ∧ v22 = .int .i64 j ∧ Hid (Done i j p posR (fun i j => divS (dot a b i j 3) 65536)) ∧ holdsN wr B 22 9 a ∧ holdsN wr (B + 1) 22 9 b ∧ holdsN wr (B + 1 + 1) 22 9 (fun _ => 0) ∧ holdsN wr (B + 1 + 1 + 1) 22 9 p ∧ Below B w wr ∧ B + 1 + 1 + 1 < wr.heap.size) (fun v _ => 3 - (intOf v).toNat)
      case atStart => exact ⟨0, p, by omega, rfl, hd, k0, k1, k2, k3, kb, ks⟩
      case round =>
        obtain ⟨j, p, hj, rfl, hd, k0, k1, k2, k3, kb, ks⟩ := hrel
        by_cases hj3 : j < 3
        · go_wp2_with fail
          obtain ⟨wp, hwp⟩ : ∃ wp : World, wp = wr := ⟨_, rfl⟩
          subst hwp
          rw [show decide ((j : Int) < 3) = true from decide_eq_true (by omega)]
          go_loopw [8, 25] (fun v8 v25 wr => ∃ k : Nat, k ≤ 3 ∧ v25 = .int .i64 k ∧ v8 = .int .i64 (dot a b i j k) ∧ holdsN wr B 22 9 a ∧ holdsN wr (B + 1) 22 9 b ∧ holdsN wr (B + 1 + 1) 22 9 (fun _ => 0) ∧ holdsN wr (B + 1 + 1 + 1) 22 9 p ∧ Below B w wr ∧ B + 1 + 1 + 1 < wr.heap.size) (fun _ v _ => 3 - (intOf v).toNat)
          case atStart => exact ⟨0, by omega, rfl, rfl, k0, k1, k2, k3, kb, ks⟩
          case round =>
            obtain ⟨k, hk, rfl, rfl, k0, k1, k2, k3, kb, ks⟩ := hrel
            have hdb := HDB.out i j hi3 hj3 k hk
            by_cases hk3 : k < 3
            · have c1 := k0.cell (3 * i + k) (by omega)
              have c2 := k1.cell (3 * k + j) (by omega)
              have hx := HA.out (3 * i + k) (by omega)
              have hy := HBB.out (3 * k + j) (by omega)
              have hxy := mul20 hx hy
              have hdot : Hid (dot a b i j (k + 1) = dot a b i j k + a (3 * i + k) * b (3 * k + j)) := rfl
              generalize a (3 * i + k) = x at *
              generalize b (3 * k + j) = y at *
              generalize hS : dot a b i j k = S at *
              have HS := Lib.hid hS
              clear hS
              go_wp2_with fail
              go_quiet (fail)
              go_wp2_with fail
              go_roundw
              case rel => exact ⟨k + 1, by omega, by go_num, by rw [hdot.out], k0.drewN _, k1.drewN _, k2.drewN _, k3.drewN _, below_drewN kb _, ks⟩
              case measure => simp [intOf]; omega
            · obtain rfl : k = 3 := by omega
              have c2 := k3.cell (3 * i + j) (by omega)
              have c3 := k3.free (3 * i + j)
              have hd' : Hid (Done i (j + 1) (upd p (posR i j) (divS (dot a b i j 3) 65536)) posR (fun i j => divS (dot a b i j 3) 65536)) := hd.out.step hi3 hj3 (by unfold posR; omega)
              generalize hS : dot a b i j 3 = S at *
              have HS := Lib.hid hS
              clear hS
              have hdv := fun w => div_any S 65536 w (by unfold I64; omega) (by unfold I64; omega)
              have HDV := Lib.hid hdv
              clear hdv
              go_wp2_with (go_at_call 33; refine (HDV.out _).mono ?_; rintro e w' ⟨rfl, ⟨nd, rfl⟩⟩)
              go_roundw
              case rel => exact ⟨j + 1, _, by omega, by go_num, hd', (k0.drewN _).setOther (by omega) _, (k1.drewN _).setOther (by omega) _, (k2.drewN _).setOther (by omega) _, (k3.drewN _).set (3 * i + j) (divS S 65536), (below_drewN kb _).setCell (by show B ≤ B + 1 + 1 + 1; omega) _, by simpa [World.setCell] using ks⟩
              case measure => simp [intOf]; omega
        · obtain rfl : j = 3 := by omega
          have hd' := Lib.hid hd.out.next
          go_wp2
          go_roundw
          case rel => exact ⟨i + 1, p, by omega, by go_num, hd', k0, k1, k2, k3, kb, ks⟩
          case measure => simp [intOf]; omega
    · obtain rfl : i = 3 := by omega
      have hp := Lib.hid (mul_end hd.out)
      have G2 := Lib.hid k2
      go_wp2_with (first
        | (refine wpList_load_arr rfl 22 (.tmp 5) rfl rfl k3 Try.underlying22 hi9 ?_)
        | (refine wpList_store_arr rfl 22 (.tmp 4) (.tmp 53) rfl rfl rfl G2.out (arrN_size _ _) hi9 ?_))
      refine bodyPost_ret (v := .agg (arrN 9 p)) (results_cell_row rfl _ _ (B + 1 + 1) 22 _ _ _ rfl (holdsN_row G2.out p) Try.underlying22 rfl (by rw [arrN_size]; exact hi9)) rfl ?_
      exact ⟨by rw [HM.out, hp.out], by rw [HB.out]; exact below_setRow kb (by omega) _⟩
theorem mul_any' (a b : Nat → Int) (w : World) :
    Calls Try.prog 24 #[.agg (arrN 9 a), .agg (arrN 9 b)] w fun e w' => e = .returned (.agg (arrN 9 (mulM a b))) ∧ Below w.heap.size w w' := by
  by_cases h : okM a ∧ okM b
  · exact mul_ok a b w h.1 h.2
  · exact mul_bad a b w h
end Go.Proofs.Yteehnbgkgdhgaaa.Mx
