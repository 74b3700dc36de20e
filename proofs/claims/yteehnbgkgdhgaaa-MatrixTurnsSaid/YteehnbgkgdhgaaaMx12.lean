/-
  MatrixTurns: the walk.
-/
import Derived.Test.YteehnbgkgdhgaaaMx10
import Derived.Test.YteehnbgkgdhgaaaMxT
namespace Go.Proofs.Yteehnbgkgdhgaaa.Mx
open Go.RowKit Go.Proofs.Yteehnbgkgdhgaaa.NM Go.Proofs.Yteehnbgkgdhgaaa.Spec Go.Proofs.YteehnbgkgdhgaaaW.PrintWords Go.Proofs.YteehnbgkgdhgaaaW.PrintMore
attribute [local go_sem] eq9 eq3 eg9 eg3 eqN_refl turn_turn turn_mul
set_option linter.unusedVariables false

set_option maxHeartbeats 2000000 in
theorem turns_walk (a b : Nat → Int) (w : World) :
    Calls Try.prog 8 #[.agg (arrN 9 a), .agg (arrN 9 b)] w fun e w' => e = .returned (.bool true) ∧ Below w.heap.size w w' := by
  go_enter Try.func8, Try.ntmps8
  go_upto_region 1 with fail
  have h0 : holdsN ((w.alloc (.cells (arrN 9 a) 22)).alloc (.cells (arrN 9 b) 22)) (w.heap.size) 22 9 a := (holdsN_new w 22 9 a).alloc (.cells (arrN 9 b) 22)
  have h1 : holdsN ((w.alloc (.cells (arrN 9 a) 22)).alloc (.cells (arrN 9 b) 22)) (w.heap.size + 1) 22 9 b := by
    have := holdsN_new (w.alloc (.cells (arrN 9 a) 22)) 22 9 b
    simpa using this
  have hb : Below w.heap.size w ((w.alloc (.cells (arrN 9 a) 22)).alloc (.cells (arrN 9 b) 22)) := ((Below.refl _ _).alloc (Nat.le_refl _) _).alloc (by simp) _
  have hs : w.heap.size + 1 < ((w.alloc (.cells (arrN 9 a) 22)).alloc (.cells (arrN 9 b) 22)).heap.size := by simp
  generalize ((w.alloc (.cells (arrN 9 a) 22)).alloc (.cells (arrN 9 b) 22)) = wc at *
  generalize hB : w.heap.size = B at *
  have HB := Lib.hid hB
  clear hB
  have HD := Lib.hid (det_turn a)
  go_wp2_with (refine wpList_load_arr_g rfl 22 (.tmp 2) rfl rfl h0 Try.underlying22 hi9 ?_)
  refine (turned_any a _).mono ?_; rintro e w1 ⟨rfl, b1⟩
  have g0 := h0.kept b1 h0.lt
  have g1 := h1.kept b1 h1.lt
  have gb := hb.trans (b1.mono (by rw [← HB.out]; exact hb.size))
  clear h0 h1 hb hs b1
  have H3 : (w1.alloc (.cells #[.int .i64 0, .int .i64 0, .int .i64 0, .int .i64 0, .int .i64 0, .int .i64 0, .int .i64 0, .int .i64 0, .int .i64 0] 22)).heap[w1.heap.size]? = some (.cells #[.int .i64 0, .int .i64 0, .int .i64 0, .int .i64 0, .int .i64 0, .int .i64 0, .int .i64 0, .int .i64 0, .int .i64 0] 22 (0, 0)) := holdsN_new w1 22 9 (fun _ => 0)
  have g2 : holdsN ((w1.alloc (.cells #[.int .i64 0, .int .i64 0, .int .i64 0, .int .i64 0, .int .i64 0, .int .i64 0, .int .i64 0, .int .i64 0, .int .i64 0] 22)).setRow w1.heap.size (arrN 9 (turnM a))) w1.heap.size 22 9 (turnM a) := holdsN_row H3 _
  have g0' := ((g0.alloc (.cells #[.int .i64 0, .int .i64 0, .int .i64 0, .int .i64 0, .int .i64 0, .int .i64 0, .int .i64 0, .int .i64 0, .int .i64 0] 22)).setRowOther (Nat.ne_of_lt g0.lt) (arrN 9 (turnM a)))
  have g1' := ((g1.alloc (.cells #[.int .i64 0, .int .i64 0, .int .i64 0, .int .i64 0, .int .i64 0, .int .i64 0, .int .i64 0, .int .i64 0, .int .i64 0] 22)).setRowOther (Nat.ne_of_lt g1.lt) (arrN 9 (turnM a)))
  have hb' := below_setRow (gb.alloc (by rw [← HB.out]; exact gb.size) (.cells #[.int .i64 0, .int .i64 0, .int .i64 0, .int .i64 0, .int .i64 0, .int .i64 0, .int .i64 0, .int .i64 0, .int .i64 0] 22)) (by rw [← HB.out]; exact gb.size) (arrN 9 (turnM a))
  go_upto_region 2 with (first | (refine wpList_store_arr rfl 22 (.tmp 5) (.tmp 7) rfl rfl rfl H3 rfl hi9 ?_))
  clear H3 g0 g1 gb
  generalize ((w1.alloc (.cells #[.int .i64 0, .int .i64 0, .int .i64 0, .int .i64 0, .int .i64 0, .int .i64 0, .int .i64 0, .int .i64 0, .int .i64 0] 22)).setRow w1.heap.size (arrN 9 (turnM a))) = w1' at *
  generalize w1.heap.size = g at *
  refine wp_region_quiet (C := fun w' => Below B w w' ∧ holdsN w' B 22 9 a ∧ holdsN w' (B + 1) 22 9 b ∧ holdsN w' g 22 9 (turnM a)) (by kernel_rfl) (by kernel_rfl) ⟨hb'.drew, g0', g1', g2⟩ ?_
  refine wpQuiet_val rfl (v := .bool true) (fun w hw => by unfold Oper.quietAt; go_simp; exact (awake_any w).mono fun e w' h => ⟨h.1, hw.1.trans (h.2.mono (by rw [← HB.out]; exact hw.1.size)), hw.2.1.kept h.2 hw.2.1.lt, hw.2.2.1.kept h.2 hw.2.2.1.lt, hw.2.2.2.kept h.2 hw.2.2.2.lt⟩) ?_
  (try simp only [Act.put, List.setIfInBounds_toArray, List.set_cons_zero, List.set_cons_succ])
  refine wpQuiet_val rfl (v := .bool true) (fun w hw => by unfold Oper.quietAt; go_simp) ?_
  (try simp only [Act.put, List.setIfInBounds_toArray, List.set_cons_zero, List.set_cons_succ])
  refine wpQuiet_val rfl (v := .agg (arrN 9 (turnM a))) (fun w hw => quietAt_load 22 _ rfl (run_loadAt_arr (P := Try.prog) 22 hw.2.2.2 Try.underlying22 hi9)) ?_
  (try simp only [Act.put, List.setIfInBounds_toArray, List.set_cons_zero, List.set_cons_succ])
  refine wpQuiet_val rfl (v := .agg (arrN 9 (turnM (turnM a)))) (fun w hw => by unfold Oper.quietAt; go_simp; exact (turned_any (turnM a) w).mono fun e w' h => ⟨h.1, hw.1.trans (h.2.mono (by rw [← HB.out]; exact hw.1.size)), hw.2.1.kept h.2 hw.2.1.lt, hw.2.2.1.kept h.2 hw.2.2.1.lt, hw.2.2.2.kept h.2 hw.2.2.2.lt⟩) ?_
  (try simp only [Act.put, List.setIfInBounds_toArray, List.set_cons_zero, List.set_cons_succ])
  refine wpQuiet_val rfl (v := .agg (arrN 9 a)) (fun w hw => quietAt_load 22 _ rfl (run_loadAt_arr (P := Try.prog) 22 hw.2.1 Try.underlying22 hi9)) ?_
  (try simp only [Act.put, List.setIfInBounds_toArray, List.set_cons_zero, List.set_cons_succ])
  refine wpQuiet_val rfl (v := .bool true) (fun w hw => by unfold Oper.quietAt; go_simp) ?_
  (try simp only [Act.put, List.setIfInBounds_toArray, List.set_cons_zero, List.set_cons_succ])
  refine wpQuiet_val rfl (v := .bool true) (fun w hw => by unfold Oper.quietAt; go_simp) ?_
  (try simp only [Act.put, List.setIfInBounds_toArray, List.set_cons_zero, List.set_cons_succ])
  refine wpQuiet_val rfl (v := .bool true) (fun w hw => by unfold Oper.quietAt; go_simp) ?_
  (try simp only [Act.put, List.setIfInBounds_toArray, List.set_cons_zero, List.set_cons_succ])
  refine wpQuiet_val rfl (v := .agg (arrN 9 a)) (fun w hw => quietAt_load 22 _ rfl (run_loadAt_arr (P := Try.prog) 22 hw.2.1 Try.underlying22 hi9)) ?_
  (try simp only [Act.put, List.setIfInBounds_toArray, List.set_cons_zero, List.set_cons_succ])
  refine wpQuiet_val rfl (v := .agg (arrN 9 b)) (fun w hw => quietAt_load 22 _ rfl (run_loadAt_arr (P := Try.prog) 22 hw.2.2.1 Try.underlying22 hi9)) ?_
  (try simp only [Act.put, List.setIfInBounds_toArray, List.set_cons_zero, List.set_cons_succ])
  refine wpQuiet_val rfl (v := .agg (arrN 9 (mulM a b))) (fun w hw => by unfold Oper.quietAt; go_simp; exact (mul_any' a b w).mono fun e w' h => ⟨h.1, hw.1.trans (h.2.mono (by rw [← HB.out]; exact hw.1.size)), hw.2.1.kept h.2 hw.2.1.lt, hw.2.2.1.kept h.2 hw.2.2.1.lt, hw.2.2.2.kept h.2 hw.2.2.2.lt⟩) ?_
  (try simp only [Act.put, List.setIfInBounds_toArray, List.set_cons_zero, List.set_cons_succ])
  refine wpQuiet_val rfl (v := .agg (arrN 9 (turnM (mulM a b)))) (fun w hw => by unfold Oper.quietAt; go_simp; exact (turned_any (mulM a b) w).mono fun e w' h => ⟨h.1, hw.1.trans (h.2.mono (by rw [← HB.out]; exact hw.1.size)), hw.2.1.kept h.2 hw.2.1.lt, hw.2.2.1.kept h.2 hw.2.2.1.lt, hw.2.2.2.kept h.2 hw.2.2.2.lt⟩) ?_
  (try simp only [Act.put, List.setIfInBounds_toArray, List.set_cons_zero, List.set_cons_succ])
  refine wpQuiet_val rfl (v := .agg (arrN 9 b)) (fun w hw => quietAt_load 22 _ rfl (run_loadAt_arr (P := Try.prog) 22 hw.2.2.1 Try.underlying22 hi9)) ?_
  (try simp only [Act.put, List.setIfInBounds_toArray, List.set_cons_zero, List.set_cons_succ])
  refine wpQuiet_val rfl (v := .agg (arrN 9 (turnM b))) (fun w hw => by unfold Oper.quietAt; go_simp; exact (turned_any b w).mono fun e w' h => ⟨h.1, hw.1.trans (h.2.mono (by rw [← HB.out]; exact hw.1.size)), hw.2.1.kept h.2 hw.2.1.lt, hw.2.2.1.kept h.2 hw.2.2.1.lt, hw.2.2.2.kept h.2 hw.2.2.2.lt⟩) ?_
  (try simp only [Act.put, List.setIfInBounds_toArray, List.set_cons_zero, List.set_cons_succ])
  refine wpQuiet_val rfl (v := .agg (arrN 9 (turnM a))) (fun w hw => quietAt_load 22 _ rfl (run_loadAt_arr (P := Try.prog) 22 hw.2.2.2 Try.underlying22 hi9)) ?_
  (try simp only [Act.put, List.setIfInBounds_toArray, List.set_cons_zero, List.set_cons_succ])
  refine wpQuiet_val rfl (v := .agg (arrN 9 (mulM (turnM b) (turnM a)))) (fun w hw => by unfold Oper.quietAt; go_simp; exact (mul_any' (turnM b) (turnM a) w).mono fun e w' h => ⟨h.1, hw.1.trans (h.2.mono (by rw [← HB.out]; exact hw.1.size)), hw.2.1.kept h.2 hw.2.1.lt, hw.2.2.1.kept h.2 hw.2.2.1.lt, hw.2.2.2.kept h.2 hw.2.2.2.lt⟩) ?_
  (try simp only [Act.put, List.setIfInBounds_toArray, List.set_cons_zero, List.set_cons_succ])
  refine wpQuiet_val rfl (v := .bool true) (fun w hw => by unfold Oper.quietAt; go_simp) ?_
  (try simp only [Act.put, List.setIfInBounds_toArray, List.set_cons_zero, List.set_cons_succ])
  refine wpQuiet_val rfl (v := .bool true) (fun w hw => by unfold Oper.quietAt; go_simp) ?_
  (try simp only [Act.put, List.setIfInBounds_toArray, List.set_cons_zero, List.set_cons_succ])
  refine wpQuiet_val rfl (v := .bool true) (fun w hw => by unfold Oper.quietAt; go_simp) ?_
  (try simp only [Act.put, List.setIfInBounds_toArray, List.set_cons_zero, List.set_cons_succ])
  refine wpQuiet_val rfl (v := .agg (arrN 9 (turnM a))) (fun w hw => quietAt_load 22 _ rfl (run_loadAt_arr (P := Try.prog) 22 hw.2.2.2 Try.underlying22 hi9)) ?_
  (try simp only [Act.put, List.setIfInBounds_toArray, List.set_cons_zero, List.set_cons_succ])
  refine wpQuiet_val rfl (v := .int .i64 (detS (turnM a))) (fun w hw => by unfold Oper.quietAt; go_simp; exact (det_any (turnM a) w).mono fun e w' h => ⟨h.1, hw.1.trans (h.2.mono (by rw [← HB.out]; exact hw.1.size)), hw.2.1.kept h.2 hw.2.1.lt, hw.2.2.1.kept h.2 hw.2.2.1.lt, hw.2.2.2.kept h.2 hw.2.2.2.lt⟩) ?_
  (try simp only [Act.put, List.setIfInBounds_toArray, List.set_cons_zero, List.set_cons_succ])
  refine wpQuiet_val rfl (v := .agg (arrN 9 a)) (fun w hw => quietAt_load 22 _ rfl (run_loadAt_arr (P := Try.prog) 22 hw.2.1 Try.underlying22 hi9)) ?_
  (try simp only [Act.put, List.setIfInBounds_toArray, List.set_cons_zero, List.set_cons_succ])
  refine wpQuiet_val rfl (v := .int .i64 (detS a)) (fun w hw => by unfold Oper.quietAt; go_simp; exact (det_any a w).mono fun e w' h => ⟨h.1, hw.1.trans (h.2.mono (by rw [← HB.out]; exact hw.1.size)), hw.2.1.kept h.2 hw.2.1.lt, hw.2.2.1.kept h.2 hw.2.2.1.lt, hw.2.2.2.kept h.2 hw.2.2.2.lt⟩) ?_
  (try simp only [Act.put, List.setIfInBounds_toArray, List.set_cons_zero, List.set_cons_succ])
  refine wpQuiet_val rfl (v := .bool true) (fun w hw => by have hd := HD.out; unfold Oper.quietAt; go_simp) ?_
  (try simp only [Act.put, List.setIfInBounds_toArray, List.set_cons_zero, List.set_cons_succ])
  refine wpQuiet_val rfl (v := .bool true) (fun w hw => by unfold Oper.quietAt; go_simp) ?_
  (try simp only [Act.put, List.setIfInBounds_toArray, List.set_cons_zero, List.set_cons_succ])
  refine wpQuiet_val rfl (v := .bool true) (fun w hw => by unfold Oper.quietAt; go_simp) ?_
  (try simp only [Act.put, List.setIfInBounds_toArray, List.set_cons_zero, List.set_cons_succ])
  refine wpQuiet_nil ?_
  intro w' hw'
  rename_i J K' hK
  refine hK _ _ ?_
  go_wp2
  go_ret
  exact ⟨rfl, by rw [HB.out]; exact hw'.1⟩
end Go.Proofs.Yteehnbgkgdhgaaa.Mx
