/-
  MatrixApplies, MatrixProducts: the walks.
-/
import Derived.Test.YteehnbgkgdhgaaaMx10
import Derived.Test.YteehnbgkgdhgaaaMx6
namespace Go.Proofs.Yteehnbgkgdhgaaa.Mx
open Go.RowKit Go.Proofs.Yteehnbgkgdhgaaa.NM Go.Proofs.Yteehnbgkgdhgaaa.Spec Go.Proofs.YteehnbgkgdhgaaaW.PrintWords Go.Proofs.YteehnbgkgdhgaaaW.PrintMore
attribute [local go_sem] eq9 eq3 eg9 eg3 eqN_refl
set_option linter.unusedVariables false

set_option maxHeartbeats 2000000 in
theorem applies_walk (m v : Nat → Int) (w : World) :
    Calls Try.prog 3 #[.agg (arrN 9 m), .agg (arrN 3 v)] w fun e w' => e = .returned (.bool true) ∧ Below w.heap.size w w' := by
  go_enter Try.func3, Try.ntmps3
  go_upto_region 1 with fail
  have h0 : holdsN ((w.alloc (.cells (arrN 9 m) 22)).alloc (.cells (arrN 3 v) 23)) (w.heap.size) 22 9 m := (holdsN_new w 22 9 m).alloc (.cells (arrN 3 v) 23)
  have h1 : holdsN ((w.alloc (.cells (arrN 9 m) 22)).alloc (.cells (arrN 3 v) 23)) (w.heap.size + 1) 23 3 v := by
    have := holdsN_new (w.alloc (.cells (arrN 9 m) 22)) 23 3 v
    simpa using this
  have hb : Below w.heap.size w ((w.alloc (.cells (arrN 9 m) 22)).alloc (.cells (arrN 3 v) 23)) := ((Below.refl _ _).alloc (Nat.le_refl _) _).alloc (by simp) _
  have hs : w.heap.size + 1 < ((w.alloc (.cells (arrN 9 m) 22)).alloc (.cells (arrN 3 v) 23)).heap.size := by simp
  generalize ((w.alloc (.cells (arrN 9 m) 22)).alloc (.cells (arrN 3 v) 23)) = wc at *
  generalize hB : w.heap.size = B at *
  have HB := Lib.hid hB
  clear hB
  refine wp_region_quiet (C := fun w' => Below B w w' ∧ holdsN w' B 22 9 m ∧ holdsN w' (B + 1) 23 3 v) (by kernel_rfl) (by kernel_rfl) ⟨hb.drew, h0, h1⟩ ?_
  refine wpQuiet_val rfl (v := .bool true) (fun w hw => by unfold Oper.quietAt; go_simp; exact (awake_any w).mono fun e w' h => ⟨h.1, hw.1.trans (h.2.mono (by rw [← HB.out]; exact hw.1.size)), hw.2.1.kept h.2 hw.2.1.lt, hw.2.2.kept h.2 hw.2.2.lt⟩) ?_
  (try simp only [Act.put, List.setIfInBounds_toArray, List.set_cons_zero, List.set_cons_succ])
  refine wpQuiet_val rfl (v := .bool true) (fun w hw => by unfold Oper.quietAt; go_simp) ?_
  (try simp only [Act.put, List.setIfInBounds_toArray, List.set_cons_zero, List.set_cons_succ])
  refine wpQuiet_val rfl (v := .agg (arrN 9 m)) (fun w hw => quietAt_load 22 _ rfl (run_loadAt_arr (P := Try.prog) 22 hw.2.1 Try.underlying22 hi9)) ?_
  (try simp only [Act.put, List.setIfInBounds_toArray, List.set_cons_zero, List.set_cons_succ])
  refine wpQuiet_val rfl (v := .agg (arrN 3 v)) (fun w hw => quietAt_load 23 _ rfl (run_loadAt_arr (P := Try.prog) 23 hw.2.2 Try.underlying23 hi3)) ?_
  (try simp only [Act.put, List.setIfInBounds_toArray, List.set_cons_zero, List.set_cons_succ])
  refine wpQuiet_val rfl (v := .agg (arrN 3 (applyM m v))) (fun w hw => by unfold Oper.quietAt; go_simp; exact (apply_any m v w).mono fun e w' h => ⟨h.1, hw.1.trans (h.2.mono (by rw [← HB.out]; exact hw.1.size)), hw.2.1.kept h.2 hw.2.1.lt, hw.2.2.kept h.2 hw.2.2.lt⟩) ?_
  (try simp only [Act.put, List.setIfInBounds_toArray, List.set_cons_zero, List.set_cons_succ])
  refine wpQuiet_val rfl (v := .agg (arrN 9 m)) (fun w hw => quietAt_load 22 _ rfl (run_loadAt_arr (P := Try.prog) 22 hw.2.1 Try.underlying22 hi9)) ?_
  (try simp only [Act.put, List.setIfInBounds_toArray, List.set_cons_zero, List.set_cons_succ])
  refine wpQuiet_val rfl (v := .agg (arrN 3 v)) (fun w hw => quietAt_load 23 _ rfl (run_loadAt_arr (P := Try.prog) 23 hw.2.2 Try.underlying23 hi3)) ?_
  (try simp only [Act.put, List.setIfInBounds_toArray, List.set_cons_zero, List.set_cons_succ])
  refine wpQuiet_val rfl (v := .agg (arrN 3 (applyM m v))) (fun w hw => by unfold Oper.quietAt; go_simp; exact (rapply_any m v w).mono fun e w' h => ⟨h.1, hw.1.trans (h.2.mono (by rw [← HB.out]; exact hw.1.size)), hw.2.1.kept h.2 hw.2.1.lt, hw.2.2.kept h.2 hw.2.2.lt⟩) ?_
  (try simp only [Act.put, List.setIfInBounds_toArray, List.set_cons_zero, List.set_cons_succ])
  refine wpQuiet_val rfl (v := .bool true) (fun w hw => by unfold Oper.quietAt; go_simp) ?_
  (try simp only [Act.put, List.setIfInBounds_toArray, List.set_cons_zero, List.set_cons_succ])
  refine wpQuiet_val rfl (v := .bool true) (fun w hw => by unfold Oper.quietAt; go_simp) ?_
  (try simp only [Act.put, List.setIfInBounds_toArray, List.set_cons_zero, List.set_cons_succ])
  refine wpQuiet_val rfl (v := .bool true) (fun w hw => by unfold Oper.quietAt; go_simp) ?_
  (try simp only [Act.put, List.setIfInBounds_toArray, List.set_cons_zero, List.set_cons_succ])
  refine wpQuiet_nil ?_
  intro w' hw'
  rename_i J K' hK
  refine hK _ _ ?_
  go_wp2
  go_ret
  exact ⟨rfl, by rw [HB.out]; exact hw'.1⟩

set_option maxHeartbeats 2000000 in
theorem products_walk (a b : Nat → Int) (w : World) :
    Calls Try.prog 7 #[.agg (arrN 9 a), .agg (arrN 9 b)] w fun e w' => e = .returned (.bool true) ∧ Below w.heap.size w w' := by
  go_enter Try.func7, Try.ntmps7
  go_upto_region 1 with fail
  have h0 : holdsN ((w.alloc (.cells (arrN 9 a) 22)).alloc (.cells (arrN 9 b) 22)) (w.heap.size) 22 9 a := (holdsN_new w 22 9 a).alloc (.cells (arrN 9 b) 22)
  have h1 : holdsN ((w.alloc (.cells (arrN 9 a) 22)).alloc (.cells (arrN 9 b) 22)) (w.heap.size + 1) 22 9 b := by
    have := holdsN_new (w.alloc (.cells (arrN 9 a) 22)) 22 9 b
    simpa using this
  have hb : Below w.heap.size w ((w.alloc (.cells (arrN 9 a) 22)).alloc (.cells (arrN 9 b) 22)) := ((Below.refl _ _).alloc (Nat.le_refl _) _).alloc (by simp) _
  have hs : w.heap.size + 1 < ((w.alloc (.cells (arrN 9 a) 22)).alloc (.cells (arrN 9 b) 22)).heap.size := by simp
  generalize ((w.alloc (.cells (arrN 9 a) 22)).alloc (.cells (arrN 9 b) 22)) = wc at *
  generalize hB : w.heap.size = B at *
  have HB := Lib.hid hB
  clear hB
  refine wp_region_quiet (C := fun w' => Below B w w' ∧ holdsN w' B 22 9 a ∧ holdsN w' (B + 1) 22 9 b) (by kernel_rfl) (by kernel_rfl) ⟨hb.drew, h0, h1⟩ ?_
  refine wpQuiet_val rfl (v := .bool true) (fun w hw => by unfold Oper.quietAt; go_simp; exact (awake_any w).mono fun e w' h => ⟨h.1, hw.1.trans (h.2.mono (by rw [← HB.out]; exact hw.1.size)), hw.2.1.kept h.2 hw.2.1.lt, hw.2.2.kept h.2 hw.2.2.lt⟩) ?_
  (try simp only [Act.put, List.setIfInBounds_toArray, List.set_cons_zero, List.set_cons_succ])
  refine wpQuiet_val rfl (v := .bool true) (fun w hw => by unfold Oper.quietAt; go_simp) ?_
  (try simp only [Act.put, List.setIfInBounds_toArray, List.set_cons_zero, List.set_cons_succ])
  refine wpQuiet_val rfl (v := .agg (arrN 9 a)) (fun w hw => quietAt_load 22 _ rfl (run_loadAt_arr (P := Try.prog) 22 hw.2.1 Try.underlying22 hi9)) ?_
  (try simp only [Act.put, List.setIfInBounds_toArray, List.set_cons_zero, List.set_cons_succ])
  refine wpQuiet_val rfl (v := .int .i64 (codeM a)) (fun w hw => by unfold Oper.quietAt; go_simp; exact (check_any a w).mono fun e w' h => ⟨h.1, hw.1.trans (h.2.mono (by rw [← HB.out]; exact hw.1.size)), hw.2.1.kept h.2 hw.2.1.lt, hw.2.2.kept h.2 hw.2.2.lt⟩) ?_
  (try simp only [Act.put, List.setIfInBounds_toArray, List.set_cons_zero, List.set_cons_succ])
  refine wpQuiet_val rfl (v := .agg (arrN 9 a)) (fun w hw => quietAt_load 22 _ rfl (run_loadAt_arr (P := Try.prog) 22 hw.2.1 Try.underlying22 hi9)) ?_
  (try simp only [Act.put, List.setIfInBounds_toArray, List.set_cons_zero, List.set_cons_succ])
  refine wpQuiet_val rfl (v := .int .i64 (codeM a)) (fun w hw => by unfold Oper.quietAt; go_simp; exact (rcheck_any a w).mono fun e w' h => ⟨h.1, hw.1.trans (h.2.mono (by rw [← HB.out]; exact hw.1.size)), hw.2.1.kept h.2 hw.2.1.lt, hw.2.2.kept h.2 hw.2.2.lt⟩) ?_
  (try simp only [Act.put, List.setIfInBounds_toArray, List.set_cons_zero, List.set_cons_succ])
  refine wpQuiet_val rfl (v := .bool true) (fun w hw => by unfold Oper.quietAt; go_simp) ?_
  (try simp only [Act.put, List.setIfInBounds_toArray, List.set_cons_zero, List.set_cons_succ])
  refine wpQuiet_val rfl (v := .bool true) (fun w hw => by unfold Oper.quietAt; go_simp) ?_
  (try simp only [Act.put, List.setIfInBounds_toArray, List.set_cons_zero, List.set_cons_succ])
  refine wpQuiet_val rfl (v := .bool true) (fun w hw => by unfold Oper.quietAt; go_simp) ?_
  (try simp only [Act.put, List.setIfInBounds_toArray, List.set_cons_zero, List.set_cons_succ])
  refine wpQuiet_val rfl (v := .agg (arrN 9 a)) (fun w hw => quietAt_load 22 _ rfl (run_loadAt_arr (P := Try.prog) 22 hw.2.1 Try.underlying22 hi9)) ?_
  (try simp only [Act.put, List.setIfInBounds_toArray, List.set_cons_zero, List.set_cons_succ])
  refine wpQuiet_val rfl (v := .agg (arrN 9 b)) (fun w hw => quietAt_load 22 _ rfl (run_loadAt_arr (P := Try.prog) 22 hw.2.2 Try.underlying22 hi9)) ?_
  (try simp only [Act.put, List.setIfInBounds_toArray, List.set_cons_zero, List.set_cons_succ])
  refine wpQuiet_val rfl (v := .agg (arrN 9 (mulM a b))) (fun w hw => by unfold Oper.quietAt; go_simp; exact (mul_any' a b w).mono fun e w' h => ⟨h.1, hw.1.trans (h.2.mono (by rw [← HB.out]; exact hw.1.size)), hw.2.1.kept h.2 hw.2.1.lt, hw.2.2.kept h.2 hw.2.2.lt⟩) ?_
  (try simp only [Act.put, List.setIfInBounds_toArray, List.set_cons_zero, List.set_cons_succ])
  refine wpQuiet_val rfl (v := .agg (arrN 9 a)) (fun w hw => quietAt_load 22 _ rfl (run_loadAt_arr (P := Try.prog) 22 hw.2.1 Try.underlying22 hi9)) ?_
  (try simp only [Act.put, List.setIfInBounds_toArray, List.set_cons_zero, List.set_cons_succ])
  refine wpQuiet_val rfl (v := .agg (arrN 9 b)) (fun w hw => quietAt_load 22 _ rfl (run_loadAt_arr (P := Try.prog) 22 hw.2.2 Try.underlying22 hi9)) ?_
  (try simp only [Act.put, List.setIfInBounds_toArray, List.set_cons_zero, List.set_cons_succ])
  refine wpQuiet_val rfl (v := .agg (arrN 9 (mulM a b))) (fun w hw => by unfold Oper.quietAt; go_simp; exact (rmul_any' a b w).mono fun e w' h => ⟨h.1, hw.1.trans (h.2.mono (by rw [← HB.out]; exact hw.1.size)), hw.2.1.kept h.2 hw.2.1.lt, hw.2.2.kept h.2 hw.2.2.lt⟩) ?_
  (try simp only [Act.put, List.setIfInBounds_toArray, List.set_cons_zero, List.set_cons_succ])
  refine wpQuiet_val rfl (v := .bool true) (fun w hw => by unfold Oper.quietAt; go_simp) ?_
  (try simp only [Act.put, List.setIfInBounds_toArray, List.set_cons_zero, List.set_cons_succ])
  refine wpQuiet_val rfl (v := .bool true) (fun w hw => by unfold Oper.quietAt; go_simp) ?_
  (try simp only [Act.put, List.setIfInBounds_toArray, List.set_cons_zero, List.set_cons_succ])
  refine wpQuiet_val rfl (v := .bool true) (fun w hw => by unfold Oper.quietAt; go_simp) ?_
  (try simp only [Act.put, List.setIfInBounds_toArray, List.set_cons_zero, List.set_cons_succ])
  refine wpQuiet_val rfl (v := .agg (arrN 9 a)) (fun w hw => quietAt_load 22 _ rfl (run_loadAt_arr (P := Try.prog) 22 hw.2.1 Try.underlying22 hi9)) ?_
  (try simp only [Act.put, List.setIfInBounds_toArray, List.set_cons_zero, List.set_cons_succ])
  refine wpQuiet_val rfl (v := .agg (arrN 9 (turnM a))) (fun w hw => by unfold Oper.quietAt; go_simp; exact (turned_any a w).mono fun e w' h => ⟨h.1, hw.1.trans (h.2.mono (by rw [← HB.out]; exact hw.1.size)), hw.2.1.kept h.2 hw.2.1.lt, hw.2.2.kept h.2 hw.2.2.lt⟩) ?_
  (try simp only [Act.put, List.setIfInBounds_toArray, List.set_cons_zero, List.set_cons_succ])
  refine wpQuiet_val rfl (v := .agg (arrN 9 a)) (fun w hw => quietAt_load 22 _ rfl (run_loadAt_arr (P := Try.prog) 22 hw.2.1 Try.underlying22 hi9)) ?_
  (try simp only [Act.put, List.setIfInBounds_toArray, List.set_cons_zero, List.set_cons_succ])
  refine wpQuiet_val rfl (v := .agg (arrN 9 (turnM a))) (fun w hw => by unfold Oper.quietAt; go_simp; exact (rturned_any a w).mono fun e w' h => ⟨h.1, hw.1.trans (h.2.mono (by rw [← HB.out]; exact hw.1.size)), hw.2.1.kept h.2 hw.2.1.lt, hw.2.2.kept h.2 hw.2.2.lt⟩) ?_
  (try simp only [Act.put, List.setIfInBounds_toArray, List.set_cons_zero, List.set_cons_succ])
  refine wpQuiet_val rfl (v := .bool true) (fun w hw => by unfold Oper.quietAt; go_simp) ?_
  (try simp only [Act.put, List.setIfInBounds_toArray, List.set_cons_zero, List.set_cons_succ])
  refine wpQuiet_val rfl (v := .bool true) (fun w hw => by unfold Oper.quietAt; go_simp) ?_
  (try simp only [Act.put, List.setIfInBounds_toArray, List.set_cons_zero, List.set_cons_succ])
  refine wpQuiet_val rfl (v := .bool true) (fun w hw => by unfold Oper.quietAt; go_simp) ?_
  (try simp only [Act.put, List.setIfInBounds_toArray, List.set_cons_zero, List.set_cons_succ])
  refine wpQuiet_nil ?_
  intro w' hw'
  rename_i J K' hK
  refine hK _ _ ?_
  go_wp2
  go_ret
  exact ⟨rfl, by rw [HB.out]; exact hw'.1⟩
end Go.Proofs.Yteehnbgkgdhgaaa.Mx
