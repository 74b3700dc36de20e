/-
  MatrixUnit: the walk.
-/
import Derived.Test.YteehnbgkgdhgaaaMx10
import Derived.Test.YteehnbgkgdhgaaaMxU
namespace Go.Proofs.Yteehnbgkgdhgaaa.Mx
open Go.RowKit Go.Proofs.Yteehnbgkgdhgaaa.NM Go.Proofs.Yteehnbgkgdhgaaa.Spec Go.Proofs.YteehnbgkgdhgaaaW.PrintWords Go.Proofs.YteehnbgkgdhgaaaW.PrintMore
attribute [local go_sem] eq9 eq3 eg9 eg3 eqN_refl max2_int min2_int apply_same eq_inv_same
set_option linter.unusedVariables false
theorem inv_same (w : World) : Calls Try.prog 22 #[.agg (arrN 9 sameM)] w fun e w' => e = .returned (.tuple #[.agg (arrN 9 (invV sameM)), .int .i64 0]) ∧ Below w.heap.size w w' := by
  have h := inverse_any sameM w
  rw [inv_same_code] at h
  exact h

set_option maxHeartbeats 4000000 in
theorem unit_walk (m v : Nat → Int) (w : World) :
    Calls Try.prog 4 #[.agg (arrN 9 m), .agg (arrN 3 v)] w fun e w' => e = .returned (.bool true) ∧ Below w.heap.size w w' := by
  go_enter Try.func4, Try.ntmps4
  go_upto_region 1 with fail
  have h0 : holdsN ((w.alloc (.cells (arrN 9 m) 22)).alloc (.cells (arrN 3 v) 23)) (w.heap.size) 22 9 m := (holdsN_new w 22 9 m).alloc (.cells (arrN 3 v) 23)
  have h1 : holdsN ((w.alloc (.cells (arrN 9 m) 22)).alloc (.cells (arrN 3 v) 23)) (w.heap.size + 1) 23 3 v := by
    have := holdsN_new (w.alloc (.cells (arrN 9 m) 22)) 23 3 v
    simpa using this
  have hb : Below w.heap.size w ((w.alloc (.cells (arrN 9 m) 22)).alloc (.cells (arrN 3 v) 23)) := ((Below.refl _ _).alloc (Nat.le_refl _) _).alloc (by simp) _
  have hs : w.heap.size + 1 < ((w.alloc (.cells (arrN 9 m) 22)).alloc (.cells (arrN 3 v) 23)).heap.size := by simp
  generalize ((w.alloc (.cells (arrN 9 m) 22)).alloc (.cells (arrN 3 v) 23)) = wc at *
  generalize hB : w.heap.size = B at *
  have HB := Lib.hid hB
  clear hB
  go_wp2_with fail
  refine (same_any _).mono ?_; rintro e w1 ⟨rfl, b1⟩
  have g0 := h0.kept b1 h0.lt
  have g1 := h1.kept b1 h1.lt
  have gb := hb.trans (b1.mono (by rw [← HB.out]; exact hb.size))
  clear h0 h1 hb b1
  have hgs : B + 1 < w1.heap.size := g1.lt
  have H3 : (w1.alloc (.cells #[.int .i64 0, .int .i64 0, .int .i64 0, .int .i64 0, .int .i64 0, .int .i64 0, .int .i64 0, .int .i64 0, .int .i64 0] 22)).heap[w1.heap.size]? = some (.cells #[.int .i64 0, .int .i64 0, .int .i64 0, .int .i64 0, .int .i64 0, .int .i64 0, .int .i64 0, .int .i64 0, .int .i64 0] 22 (0, 0)) := holdsN_new w1 22 9 (fun _ => 0)
  have k2 : holdsN ((w1.alloc (.cells #[.int .i64 0, .int .i64 0, .int .i64 0, .int .i64 0, .int .i64 0, .int .i64 0, .int .i64 0, .int .i64 0, .int .i64 0] 22)).setRow w1.heap.size (arrN 9 (sameM))) w1.heap.size 22 9 (sameM) := holdsN_row H3 _
  have g0' := ((g0.alloc (.cells #[.int .i64 0, .int .i64 0, .int .i64 0, .int .i64 0, .int .i64 0, .int .i64 0, .int .i64 0, .int .i64 0, .int .i64 0] 22)).setRowOther (Nat.ne_of_lt g0.lt) (arrN 9 (sameM)))
  have g1' := ((g1.alloc (.cells #[.int .i64 0, .int .i64 0, .int .i64 0, .int .i64 0, .int .i64 0, .int .i64 0, .int .i64 0, .int .i64 0, .int .i64 0] 22)).setRowOther (Nat.ne_of_lt g1.lt) (arrN 9 (sameM)))
  have hb' := below_setRow (gb.alloc (by rw [← HB.out]; exact gb.size) (.cells #[.int .i64 0, .int .i64 0, .int .i64 0, .int .i64 0, .int .i64 0, .int .i64 0, .int .i64 0, .int .i64 0, .int .i64 0] 22)) (by rw [← HB.out]; exact gb.size) (arrN 9 (sameM))
  go_upto_region 2 with (first | (refine wpList_store_arr rfl 22 (.tmp 5) (.tmp 9) rfl rfl rfl H3 rfl hi9 ?_))
  clear H3 g0 g1 gb
  generalize ((w1.alloc (.cells #[.int .i64 0, .int .i64 0, .int .i64 0, .int .i64 0, .int .i64 0, .int .i64 0, .int .i64 0, .int .i64 0, .int .i64 0] 22)).setRow w1.heap.size (arrN 9 (sameM))) = w1' at *
  generalize w1.heap.size = gs at *
  go_wp2_with (refine wpList_load_arr_g rfl 22 (.tmp 5) rfl rfl k2 Try.underlying22 hi9 ?_)
  refine (inv_same _).mono ?_; rintro e w2 ⟨rfl, b1⟩
  have h0 := g0'.kept b1 g0'.lt
  have h1 := g1'.kept b1 g1'.lt
  have h2 := k2.kept b1 k2.lt
  have gb := hb'.trans (b1.mono (by rw [← HB.out]; exact hb'.size))
  clear g0' g1' k2 hb' b1
  have H3 : (w2.alloc (.cells #[.int .i64 0, .int .i64 0, .int .i64 0, .int .i64 0, .int .i64 0, .int .i64 0, .int .i64 0, .int .i64 0, .int .i64 0] 22)).heap[w2.heap.size]? = some (.cells #[.int .i64 0, .int .i64 0, .int .i64 0, .int .i64 0, .int .i64 0, .int .i64 0, .int .i64 0, .int .i64 0, .int .i64 0] 22 (0, 0)) := holdsN_new w2 22 9 (fun _ => 0)
  have k3 : holdsN ((w2.alloc (.cells #[.int .i64 0, .int .i64 0, .int .i64 0, .int .i64 0, .int .i64 0, .int .i64 0, .int .i64 0, .int .i64 0, .int .i64 0] 22)).setRow w2.heap.size (arrN 9 (invV sameM))) w2.heap.size 22 9 (invV sameM) := holdsN_row H3 _
  have h0' := ((h0.alloc (.cells #[.int .i64 0, .int .i64 0, .int .i64 0, .int .i64 0, .int .i64 0, .int .i64 0, .int .i64 0, .int .i64 0, .int .i64 0] 22)).setRowOther (Nat.ne_of_lt h0.lt) (arrN 9 (invV sameM)))
  have h1' := ((h1.alloc (.cells #[.int .i64 0, .int .i64 0, .int .i64 0, .int .i64 0, .int .i64 0, .int .i64 0, .int .i64 0, .int .i64 0, .int .i64 0] 22)).setRowOther (Nat.ne_of_lt h1.lt) (arrN 9 (invV sameM)))
  have h2' := ((h2.alloc (.cells #[.int .i64 0, .int .i64 0, .int .i64 0, .int .i64 0, .int .i64 0, .int .i64 0, .int .i64 0, .int .i64 0, .int .i64 0] 22)).setRowOther (Nat.ne_of_lt h2.lt) (arrN 9 (invV sameM)))
  have hb' := below_setRow (gb.alloc (by rw [← HB.out]; exact gb.size) (.cells #[.int .i64 0, .int .i64 0, .int .i64 0, .int .i64 0, .int .i64 0, .int .i64 0, .int .i64 0, .int .i64 0, .int .i64 0] 22)) (by rw [← HB.out]; exact gb.size) (arrN 9 (invV sameM))
  go_upto_region 3 with (first | (refine wpList_store_arr rfl 22 (.tmp 6) (.tmp 13) rfl rfl rfl H3 rfl hi9 ?_))
  clear H3 h0 h1 h2 gb
  generalize ((w2.alloc (.cells #[.int .i64 0, .int .i64 0, .int .i64 0, .int .i64 0, .int .i64 0, .int .i64 0, .int .i64 0, .int .i64 0, .int .i64 0] 22)).setRow w2.heap.size (arrN 9 (invV sameM))) = w2' at *
  generalize w2.heap.size = gi at *
  go_wp2_with fail
  refine (awake_any _).mono ?_; rintro e w3 ⟨rfl, b1⟩
  have g0 := h0'.kept b1 h0'.lt
  have g1 := h1'.kept b1 h1'.lt
  have g2 := h2'.kept b1 h2'.lt
  have g3 := k3.kept b1 k3.lt
  have gb := hb'.trans (b1.mono (by rw [← HB.out]; exact hb'.size))
  clear h0' h1' h2' k3 hb' b1
  go_wp2_with (first | (refine wpList_load_arr_g rfl 22 (.tmp 5) rfl rfl g2 Try.underlying22 hi9 ?_) | (refine wpList_load_arr_g rfl 22 (.tmp 6) rfl rfl g3 Try.underlying22 hi9 ?_))
  clear g3
  go_loopw [8, 26] (fun _ v26 wr => ∃ (k : Nat) (q : Nat → Int), k ≤ 3 ∧ v26 = .int .i64 k ∧ Hid (∀ j, j < k → q j = clampV v j) ∧ Hid (∀ j, k ≤ j → q j = v j) ∧ holdsN wr B 22 9 m ∧ holdsN wr (B + 1) 23 3 q ∧ holdsN wr gs 22 9 sameM ∧ Below B w wr) (fun _ v _ => 3 - (intOf v).toNat)
  case atStart => exact ⟨0, v, by omega, rfl, fun j hj => absurd hj (by omega), fun j _ => rfl, g0, g1, g2, gb⟩
  case round =>
    obtain ⟨k, q, hk, rfl, hq1, hq2, k0, k1, k2, kb⟩ := hrel
    clear g0 g1 g2 gb
    by_cases hk3 : k < 3
    · have c1 := k1.cell k (by omega)
      rw [hq2.out k (by omega)] at c1
      have c2 := k1.free k
      have hcl : (if 1073741824 < (if v k < -1073741824 then -1073741824 else v k) then 1073741824 else (if v k < -1073741824 then -1073741824 else v k)) = clampV v k := by unfold clampV clampS; split <;> split <;> omega
      have hq1' : Hid (∀ j, j < k + 1 → upd q k (clampV v k) j = clampV v j) := by
        intro j hj
        unfold upd
        by_cases he : j = k
        · rw [if_pos he, he]
        · rw [if_neg he]; exact hq1.out j (by omega)
      have hq2' : Hid (∀ j, k + 1 ≤ j → upd q k (clampV v k) j = v j) := by intro j hj; unfold upd; rw [if_neg (by omega)]; exact hq2.out j (by omega)
      generalize clampV v k = c at *
      generalize v k = x at *
      go_wp2
      go_roundw
      case rel => exact ⟨k + 1, _, by omega, by go_num, hq1', hq2', k0.setOther (by omega) _, k1.set k c, k2.setOther (by omega) _, kb.setCell (by show B ≤ B + 1; omega) _⟩
      case measure => simp [intOf]; omega
    · obtain rfl : k = 3 := by omega
      have hqr : ∀ j, j < 3 → -1073741824 ≤ q j ∧ q j ≤ 1073741824 := fun j hj => by rw [hq1.out j hj]; exact clampV_range v j
      have ha := apply_same hqr
      clear hq1 hq2
      go_wp2_with fail
      go_cut [41] (fun s wx => s = .bool false ∧ holdsN wx B 22 9 m ∧ holdsN wx (B + 1) 23 3 q ∧ holdsN wx gs 22 9 sameM ∧ Below B w wx)
      case first =>
        refine wp_region_quiet (C := fun w' => Below B w w' ∧ holdsN w' B 22 9 m ∧ holdsN w' (B + 1) 23 3 q ∧ holdsN w' gs 22 9 sameM) (by kernel_rfl) (by kernel_rfl) ⟨kb.drew, k0, k1, k2⟩ ?_
        refine wpQuiet_val rfl (v := .agg (arrN 9 sameM)) (fun w hw => quietAt_load 22 _ rfl (run_loadAt_arr (P := Try.prog) 22 hw.2.2.2 Try.underlying22 hi9)) ?_
        (try simp only [Act.put, List.setIfInBounds_toArray, List.set_cons_zero, List.set_cons_succ])
        refine wpQuiet_val rfl (v := .agg (arrN 3 q)) (fun w hw => quietAt_load 23 _ rfl (run_loadAt_arr (P := Try.prog) 23 hw.2.2.1 Try.underlying23 hi3)) ?_
        (try simp only [Act.put, List.setIfInBounds_toArray, List.set_cons_zero, List.set_cons_succ])
        refine wpQuiet_val rfl (v := .agg (arrN 3 (applyM sameM q))) (fun w hw => by unfold Oper.quietAt; go_simp; exact (apply_any sameM q w).mono fun e w' h => ⟨h.1, hw.1.trans (h.2.mono (by rw [← HB.out]; exact hw.1.size)), hw.2.1.kept h.2 hw.2.1.lt, hw.2.2.1.kept h.2 hw.2.2.1.lt, hw.2.2.2.kept h.2 hw.2.2.2.lt⟩) ?_
        (try simp only [Act.put, List.setIfInBounds_toArray, List.set_cons_zero, List.set_cons_succ])
        refine wpQuiet_val rfl (v := .agg (arrN 3 q)) (fun w hw => quietAt_load 23 _ rfl (run_loadAt_arr (P := Try.prog) 23 hw.2.2.1 Try.underlying23 hi3)) ?_
        (try simp only [Act.put, List.setIfInBounds_toArray, List.set_cons_zero, List.set_cons_succ])
        refine wpQuiet_val rfl (v := .bool false) (fun w hw => by unfold Oper.quietAt; go_simp) ?_
        (try simp only [Act.put, List.setIfInBounds_toArray, List.set_cons_zero, List.set_cons_succ])
        refine wpQuiet_nil ?_
        intro w' hw'
        rename_i J K' hK
        refine hK _ _ ?_
        go_meet
        case rel => exact ⟨rfl, hw'.2.1, hw'.2.2.1, hw'.2.2.2, hw'.1⟩
      case rest =>
        obtain ⟨rfl, k0, k1, k2, kb⟩ := hcut
        clear k1 ha hqr
        by_cases hm : okM m
        · have hc := codeM_ok hm
          have E1 := mul_same_r hm
          have E2 := mul_same_l hm
          clear hm
          go_wp2_with (refine wpList_load_arr_g rfl 22 (.tmp 2) rfl rfl k0 Try.underlying22 hi9 ?_)
          refine (check_any m _).mono ?_; rintro e w5 ⟨rfl, b1⟩
          have g0 := k0.kept b1 k0.lt
          have g2 := k2.kept b1 k2.lt
          have gb := kb.trans (b1.mono (by rw [← HB.out]; exact kb.size))
          clear k0 k2 kb b1
          go_wp2_with fail
          refine wp_region_quiet (C := fun w' => Below B w w' ∧ holdsN w' B 22 9 m ∧ holdsN w' gs 22 9 sameM) (by kernel_rfl) (by kernel_rfl) ⟨gb.drew, g0, g2⟩ ?_
          refine wpQuiet_val rfl (v := .agg (arrN 9 m)) (fun w hw => quietAt_load 22 _ rfl (run_loadAt_arr (P := Try.prog) 22 hw.2.1 Try.underlying22 hi9)) ?_
          (try simp only [Act.put, List.setIfInBounds_toArray, List.set_cons_zero, List.set_cons_succ])
          refine wpQuiet_val rfl (v := .agg (arrN 9 sameM)) (fun w hw => quietAt_load 22 _ rfl (run_loadAt_arr (P := Try.prog) 22 hw.2.2 Try.underlying22 hi9)) ?_
          (try simp only [Act.put, List.setIfInBounds_toArray, List.set_cons_zero, List.set_cons_succ])
          refine wpQuiet_val rfl (v := .agg (arrN 9 (mulM m sameM))) (fun w hw => by unfold Oper.quietAt; go_simp; exact (mul_any' m sameM w).mono fun e w' h => ⟨h.1, hw.1.trans (h.2.mono (by rw [← HB.out]; exact hw.1.size)), hw.2.1.kept h.2 hw.2.1.lt, hw.2.2.kept h.2 hw.2.2.lt⟩) ?_
          (try simp only [Act.put, List.setIfInBounds_toArray, List.set_cons_zero, List.set_cons_succ])
          refine wpQuiet_val rfl (v := .agg (arrN 9 m)) (fun w hw => quietAt_load 22 _ rfl (run_loadAt_arr (P := Try.prog) 22 hw.2.1 Try.underlying22 hi9)) ?_
          (try simp only [Act.put, List.setIfInBounds_toArray, List.set_cons_zero, List.set_cons_succ])
          refine wpQuiet_val rfl (v := .bool true) (fun w hw => by unfold Oper.quietAt; go_simp) ?_
          (try simp only [Act.put, List.setIfInBounds_toArray, List.set_cons_zero, List.set_cons_succ])
          refine wpQuiet_val rfl (v := .bool true) (fun w hw => by unfold Oper.quietAt; go_simp) ?_
          (try simp only [Act.put, List.setIfInBounds_toArray, List.set_cons_zero, List.set_cons_succ])
          refine wpQuiet_val rfl (v := .agg (arrN 9 sameM)) (fun w hw => quietAt_load 22 _ rfl (run_loadAt_arr (P := Try.prog) 22 hw.2.2 Try.underlying22 hi9)) ?_
          (try simp only [Act.put, List.setIfInBounds_toArray, List.set_cons_zero, List.set_cons_succ])
          refine wpQuiet_val rfl (v := .agg (arrN 9 m)) (fun w hw => quietAt_load 22 _ rfl (run_loadAt_arr (P := Try.prog) 22 hw.2.1 Try.underlying22 hi9)) ?_
          (try simp only [Act.put, List.setIfInBounds_toArray, List.set_cons_zero, List.set_cons_succ])
          refine wpQuiet_val rfl (v := .agg (arrN 9 (mulM sameM m))) (fun w hw => by unfold Oper.quietAt; go_simp; exact (mul_any' sameM m w).mono fun e w' h => ⟨h.1, hw.1.trans (h.2.mono (by rw [← HB.out]; exact hw.1.size)), hw.2.1.kept h.2 hw.2.1.lt, hw.2.2.kept h.2 hw.2.2.lt⟩) ?_
          (try simp only [Act.put, List.setIfInBounds_toArray, List.set_cons_zero, List.set_cons_succ])
          refine wpQuiet_val rfl (v := .agg (arrN 9 m)) (fun w hw => quietAt_load 22 _ rfl (run_loadAt_arr (P := Try.prog) 22 hw.2.1 Try.underlying22 hi9)) ?_
          (try simp only [Act.put, List.setIfInBounds_toArray, List.set_cons_zero, List.set_cons_succ])
          refine wpQuiet_val rfl (v := .bool true) (fun w hw => by unfold Oper.quietAt; go_simp) ?_
          (try simp only [Act.put, List.setIfInBounds_toArray, List.set_cons_zero, List.set_cons_succ])
          refine wpQuiet_val rfl (v := .bool true) (fun w hw => by unfold Oper.quietAt; go_simp) ?_
          (try simp only [Act.put, List.setIfInBounds_toArray, List.set_cons_zero, List.set_cons_succ])
          refine wpQuiet_val rfl (v := .bool true) (fun w hw => by unfold Oper.quietAt; go_simp) ?_
          (try simp only [Act.put, List.setIfInBounds_toArray, List.set_cons_zero, List.set_cons_succ])
          refine wpQuiet_nil ?_
          intro w' hw'
          rename_i J K' hK
          refine hK _ _ ?_
          go_wp2
          go_ret
          exact ⟨rfl, by rw [HB.out]; exact hw'.1⟩
        · have hc := codeM_bad hm
          have M1 := Lib.hid (fun w => mul_any' m sameM w)
          have M2 := Lib.hid (fun w => mul_any' sameM m w)
          rw [mul_bad_r hm] at M1
          rw [mul_bad_l hm] at M2
          clear hm
          go_wp2_with (refine wpList_load_arr_g rfl 22 (.tmp 2) rfl rfl k0 Try.underlying22 hi9 ?_)
          refine (check_any m _).mono ?_; rintro e w5 ⟨rfl, b1⟩
          have g0 := k0.kept b1 k0.lt
          have g2 := k2.kept b1 k2.lt
          have gb := kb.trans (b1.mono (by rw [← HB.out]; exact kb.size))
          clear k0 k2 kb b1
          go_wp2_with (first | (refine wpList_load_arr_g rfl 22 (.tmp 2) rfl rfl g0 Try.underlying22 hi9 ?_) | (refine wpList_load_arr_g rfl 22 (.tmp 5) rfl rfl g2 Try.underlying22 hi9 ?_))
          refine (M1.out _).mono ?_; rintro e w6 ⟨rfl, b1⟩
          have k0 := g0.kept b1 g0.lt
          have k2 := g2.kept b1 g2.lt
          have kb := gb.trans (b1.mono (by rw [← HB.out]; exact gb.size))
          clear g0 g2 gb b1
          go_wp2_with (first | (refine wpList_load_arr_g rfl 22 (.tmp 2) rfl rfl k0 Try.underlying22 hi9 ?_) | (refine wpList_load_arr_g rfl 22 (.tmp 5) rfl rfl k2 Try.underlying22 hi9 ?_) | (refine wpList_build_g 48 rfl rfl 22 _ rfl (arrN 9 fun _ => 0) (by kernel_rfl) ?_))
          refine (M2.out _).mono ?_; rintro e w7 ⟨rfl, b1⟩
          have gb := kb.trans (b1.mono (by rw [← HB.out]; exact kb.size))
          clear kb b1
          go_wp2_with (refine wpList_build_g 54 rfl rfl 22 _ rfl (arrN 9 fun _ => 0) (by kernel_rfl) ?_)
          go_ret
          exact ⟨rfl, by rw [HB.out]; exact gb⟩
end Go.Proofs.Yteehnbgkgdhgaaa.Mx
