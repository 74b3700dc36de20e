/-
  The worked examples of the chapter on matrices hold.
-/
import Derived.Test.YteehnbgkgdhgaaaMx9
namespace Go.Proofs.Yteehnbgkgdhgaaa.Mx
open Go.RowKit Go.Proofs.Yteehnbgkgdhgaaa.NM Go.Proofs.Yteehnbgkgdhgaaa.Spec Go.Proofs.YteehnbgkgdhgaaaW.PrintWords Go.Proofs.YteehnbgkgdhgaaaW.PrintMore
attribute [local go_sem] eq9 eq3 eg9 eg3
set_option linter.unusedVariables false

def lit9 (a b c d e f g h i : Int) : Nat → Int := fun k => ([a, b, c, d, e, f, g, h, i] : List Int).getD k 0
def lit3 (a b c : Int) : Nat → Int := fun k => ([a, b, c] : List Int).getD k 0
theorem wpList_build_g {P : Program} {ops : Array Oper} {rest : List Oper} {o : Oper} {a : Act} {w : World} {Q : Exit → Act → World → Prop} (d : Nat) (hd : o.dst = some d) (hw : Region.wanted o (yielded ops a.tmps) = true) (t : TypeId) (parts : Array (Nat × Operand)) (ho : o.op = .build t parts)
    (cells : Array Value) (hc : P.built t (parts.map fun (i, x) => (i, a.eval x)).toList = some cells)
    (h : wpList P ops Q rest (a.put o.dst (.agg cells)) w) : wpList P ops Q (o :: rest) a w :=
  wpList_step fun K hK => by rw [if_pos hw]; exact wp_build t parts ho (by rw [hc]; rfl) (by rw [hc]; exact hK _ _ h)
theorem holdsN.setRowOther {w : World} {g t n g' : Nat} {m : Nat → Int} (h : holdsN w g t n m) (hne : g ≠ g') (r : Array Value) : holdsN (w.setRow g' r) g t n m := by
  unfold holdsN at *
  rw [← h]
  simp only [World.setRow]
  rw [Array.getElem?_modify, if_neg (by omega)]

theorem quietAt_build {P : Program} {o : Oper} {a : Act} {C : World → Prop} {w : World} (hd : true = true) (t : TypeId) (parts : Array (Nat × Operand)) (ho : o.op = .build t parts) (cells : Array Value)
    (hc : P.built t (parts.map fun (i, x) => (i, a.eval x)).toList = some cells) : o.quietAt P a C w (.agg cells) := by
  unfold Oper.quietAt execOp
  simp only [ho, Sem.run_bind, run_build w t _ cells hc, Result.andThen_ok]
  exact ⟨rfl, rfl⟩
theorem q1 : eqN 9 (mulM (wholeM (lit9 1 2 0 0 1 0 0 0 1)) (wholeM (lit9 1 0 0 3 1 0 0 0 1))) (wholeM (lit9 7 2 0 3 1 0 0 0 1)) = true := by decide +kernel
theorem q2 : eqN 3 (applyM (wholeM (lit9 1 2 0 0 1 0 0 0 1)) (lit3 10 20 30)) (lit3 50 20 30) = true := by decide +kernel
theorem q3 : eqN 9 (invV (wholeM (lit9 1 2 0 0 1 0 0 0 1))) (wholeM (lit9 1 (-2) 0 0 1 0 0 0 1)) = true := by decide +kernel
theorem q4 : invCode (wholeM (lit9 1 2 0 0 1 0 0 0 1)) = 0 := by decide +kernel
theorem q5 : eqN 3 (applyM (lit9 32768 0 0 0 0 0 0 0 0) (lit3 1 0 0)) (lit3 1 0 0) = true := by decide +kernel
theorem q6 : eqN 3 (applyM (lit9 32768 0 0 0 0 0 0 0 0) (lit3 (-1) 0 0)) (lit3 0 0 0) = true := by decide +kernel
theorem q7 : detS (lit9 131072 0 0 0 131072 0 0 0 131072) = 524288 := by decide +kernel
theorem q8 : detS (lit9 (-65536) 0 0 0 32768 0 0 0 1) = 0 := by decide +kernel
theorem q9 : eqN 9 (invV (lit9 196608 0 0 0 65536 0 0 0 65536)) (lit9 21845 0 0 0 65536 0 0 0 65536) = true := by decide +kernel
theorem q10 : invCode (lit9 196608 0 0 0 65536 0 0 0 65536) = 0 := by decide +kernel
theorem q11 : invCode (lit9 0 0 0 0 0 0 0 0 0) = 17 := by decide +kernel
theorem q12 : codeM (lit9 1048577 0 0 0 0 0 0 0 0) = 2 := by decide +kernel
theorem q13 : eqN 9 sameM (wholeM (lit9 1 0 0 0 1 0 0 0 1)) = true := by decide +kernel
attribute [local go_sem] q1 q2 q3 q4 q5 q6 q7 q8 q9 q10 q11 q12 q13

set_option maxHeartbeats 4000000 in
theorem awake_any (w : World) : Calls Try.prog 18 #[] w fun e w' => e = .returned (.bool true) ∧ Below w.heap.size w w' := by
  go_enter Try.func18, Try.ntmps18
  have hb := Below.refl w.heap.size w
  go_wp2_with (refine wpList_build_g 5 rfl rfl 22 _ rfl (arrN 9 (lit9 1 2 0 0 1 0 0 0 1)) (by kernel_rfl) ?_)
  refine (whole_any (lit9 1 2 0 0 1 0 0 0 1) _ (by decide +kernel)).mono ?_; rintro e w1 ⟨rfl, b⟩
  replace hb := hb.trans (b.mono hb.size)
  clear b
  go_wp2_with (refine wpList_build_g 7 rfl rfl 22 _ rfl (arrN 9 (lit9 1 0 0 3 1 0 0 0 1)) (by kernel_rfl) ?_)
  refine (whole_any (lit9 1 0 0 3 1 0 0 0 1) _ (by decide +kernel)).mono ?_; rintro e w2 ⟨rfl, b⟩
  replace hb := hb.trans (b.mono hb.size)
  clear b
  have H1 : ((w2.alloc (.cells #[.int .i64 0, .int .i64 0, .int .i64 0, .int .i64 0, .int .i64 0, .int .i64 0, .int .i64 0, .int .i64 0, .int .i64 0] 22)).alloc (.cells #[.int .i64 0, .int .i64 0, .int .i64 0, .int .i64 0, .int .i64 0, .int .i64 0, .int .i64 0, .int .i64 0, .int .i64 0] 22)).heap[w2.heap.size]? = some (.cells #[.int .i64 0, .int .i64 0, .int .i64 0, .int .i64 0, .int .i64 0, .int .i64 0, .int .i64 0, .int .i64 0, .int .i64 0] 22 (0, 0)) := (holdsN_new w2 22 9 (fun _ => 0)).alloc (.cells (arrN 9 fun _ => 0) 22)
  have H2' : holdsN ((w2.alloc (.cells (arrN 9 fun _ => 0) 22)).alloc (.cells (arrN 9 fun _ => 0) 22)) (w2.heap.size + 1) 22 9 (fun _ => 0) := by
    have := holdsN_new (w2.alloc (.cells (arrN 9 fun _ => 0) 22)) 22 9 (fun _ => 0)
    simpa using this
  have H2 : (((w2.alloc (.cells #[.int .i64 0, .int .i64 0, .int .i64 0, .int .i64 0, .int .i64 0, .int .i64 0, .int .i64 0, .int .i64 0, .int .i64 0] 22)).alloc (.cells #[.int .i64 0, .int .i64 0, .int .i64 0, .int .i64 0, .int .i64 0, .int .i64 0, .int .i64 0, .int .i64 0, .int .i64 0] 22)).setRow w2.heap.size (arrN 9 (wholeM (lit9 1 2 0 0 1 0 0 0 1)))).heap[w2.heap.size + 1]? = some (.cells #[.int .i64 0, .int .i64 0, .int .i64 0, .int .i64 0, .int .i64 0, .int .i64 0, .int .i64 0, .int .i64 0, .int .i64 0] 22 (0, 0)) := H2'.setRowOther (by omega) _
  have K1 : holdsN ((((w2.alloc (.cells #[.int .i64 0, .int .i64 0, .int .i64 0, .int .i64 0, .int .i64 0, .int .i64 0, .int .i64 0, .int .i64 0, .int .i64 0] 22)).alloc (.cells #[.int .i64 0, .int .i64 0, .int .i64 0, .int .i64 0, .int .i64 0, .int .i64 0, .int .i64 0, .int .i64 0, .int .i64 0] 22)).setRow w2.heap.size (arrN 9 (wholeM (lit9 1 2 0 0 1 0 0 0 1)))).setRow (w2.heap.size + 1) (arrN 9 (wholeM (lit9 1 0 0 3 1 0 0 0 1)))) w2.heap.size 22 9 (wholeM (lit9 1 2 0 0 1 0 0 0 1)) := (holdsN_row H1 _).setRowOther (by omega) _
  have K2 : holdsN ((((w2.alloc (.cells #[.int .i64 0, .int .i64 0, .int .i64 0, .int .i64 0, .int .i64 0, .int .i64 0, .int .i64 0, .int .i64 0, .int .i64 0] 22)).alloc (.cells #[.int .i64 0, .int .i64 0, .int .i64 0, .int .i64 0, .int .i64 0, .int .i64 0, .int .i64 0, .int .i64 0, .int .i64 0] 22)).setRow w2.heap.size (arrN 9 (wholeM (lit9 1 2 0 0 1 0 0 0 1)))).setRow (w2.heap.size + 1) (arrN 9 (wholeM (lit9 1 0 0 3 1 0 0 0 1)))) (w2.heap.size + 1) 22 9 (wholeM (lit9 1 0 0 3 1 0 0 0 1)) := holdsN_row H2 _
  replace hb := below_setRow (below_setRow ((hb.alloc hb.size (.cells #[.int .i64 0, .int .i64 0, .int .i64 0, .int .i64 0, .int .i64 0, .int .i64 0, .int .i64 0, .int .i64 0, .int .i64 0] 22)).alloc (Nat.le_trans hb.size (by simp)) (.cells #[.int .i64 0, .int .i64 0, .int .i64 0, .int .i64 0, .int .i64 0, .int .i64 0, .int .i64 0, .int .i64 0, .int .i64 0] 22)) hb.size (arrN 9 (wholeM (lit9 1 2 0 0 1 0 0 0 1)))) (Nat.le_trans hb.size (Nat.le_succ _)) (arrN 9 (wholeM (lit9 1 0 0 3 1 0 0 0 1)))
  go_upto_region 2 with (first
    | (refine wpList_store_arr rfl 22 (.tmp 1) (.tmp 6) rfl rfl rfl H1 rfl hi9 ?_)
    | (refine wpList_store_arr rfl 22 (.tmp 2) (.tmp 8) rfl rfl rfl H2 rfl hi9 ?_))
  clear H1 H2 H2'
  generalize (((w2.alloc (.cells #[.int .i64 0, .int .i64 0, .int .i64 0, .int .i64 0, .int .i64 0, .int .i64 0, .int .i64 0, .int .i64 0, .int .i64 0] 22)).alloc (.cells #[.int .i64 0, .int .i64 0, .int .i64 0, .int .i64 0, .int .i64 0, .int .i64 0, .int .i64 0, .int .i64 0, .int .i64 0] 22)).setRow w2.heap.size (arrN 9 (wholeM (lit9 1 2 0 0 1 0 0 0 1)))).setRow (w2.heap.size + 1) (arrN 9 (wholeM (lit9 1 0 0 3 1 0 0 0 1))) = w3 at *
  generalize w2.heap.size = g at *
  clear w1 w2
  have HB := Lib.hid hb
  clear hb
  go_wp2_with (first | (refine wpList_load_arr_g rfl 22 (.tmp 1) rfl rfl K1 Try.underlying22 hi9 ?_) | (refine wpList_load_arr_g rfl 22 (.tmp 2) rfl rfl K2 Try.underlying22 hi9 ?_))
  refine (mul_any' (wholeM (lit9 1 2 0 0 1 0 0 0 1)) (wholeM (lit9 1 0 0 3 1 0 0 0 1)) _).mono ?_; rintro e w4 ⟨rfl, b⟩
  replace K1 := K1.kept b K1.lt
  have HB' := Lib.hid (HB.out.trans (b.mono HB.out.size))
  clear b HB K2
  go_wp2_with (refine wpList_build_g 12 rfl rfl 22 _ rfl (arrN 9 (lit9 7 2 0 3 1 0 0 0 1)) (by kernel_rfl) ?_)
  refine (whole_any (lit9 7 2 0 3 1 0 0 0 1) _ (by decide +kernel)).mono ?_; rintro e w5 ⟨rfl, b⟩
  replace K1 := K1.kept b K1.lt
  have HB := Lib.hid (HB'.out.trans (b.mono HB'.out.size))
  clear b HB'
  go_wp2_with (first | (refine wpList_load_arr_g rfl 22 (.tmp 1) rfl rfl K1 Try.underlying22 hi9 ?_) | (refine wpList_build_g 17 rfl rfl 23 _ rfl (arrN 3 (lit3 10 20 30)) (by kernel_rfl) ?_))
  refine (apply_any (wholeM (lit9 1 2 0 0 1 0 0 0 1)) (lit3 10 20 30) _).mono ?_; rintro e w6 ⟨rfl, b⟩
  replace K1 := K1.kept b K1.lt
  have HB' := Lib.hid (HB.out.trans (b.mono HB.out.size))
  clear b HB
  go_wp2_with (first | (refine wpList_build_g 19 rfl rfl 23 _ rfl (arrN 3 (lit3 50 20 30)) (by kernel_rfl) ?_) | (refine wpList_load_arr_g rfl 22 (.tmp 1) rfl rfl K1 Try.underlying22 hi9 ?_))
  refine (inverse_any (wholeM (lit9 1 2 0 0 1 0 0 0 1)) _).mono ?_; rintro e w7 ⟨rfl, b⟩
  have HB := Lib.hid (HB'.out.trans (b.mono HB'.out.size))
  clear b HB'
  have H3 : (w7.alloc (.cells #[.int .i64 0, .int .i64 0, .int .i64 0, .int .i64 0, .int .i64 0, .int .i64 0, .int .i64 0, .int .i64 0, .int .i64 0] 22)).heap[w7.heap.size]? = some (.cells #[.int .i64 0, .int .i64 0, .int .i64 0, .int .i64 0, .int .i64 0, .int .i64 0, .int .i64 0, .int .i64 0, .int .i64 0] 22 (0, 0)) := holdsN_new w7 22 9 (fun _ => 0)
  have K3 : holdsN ((w7.alloc (.cells #[.int .i64 0, .int .i64 0, .int .i64 0, .int .i64 0, .int .i64 0, .int .i64 0, .int .i64 0, .int .i64 0, .int .i64 0] 22)).setRow w7.heap.size (arrN 9 (invV (wholeM (lit9 1 2 0 0 1 0 0 0 1))))) w7.heap.size 22 9 (invV (wholeM (lit9 1 2 0 0 1 0 0 0 1))) := holdsN_row H3 _
  have hb := below_setRow (HB.out.alloc HB.out.size (.cells #[.int .i64 0, .int .i64 0, .int .i64 0, .int .i64 0, .int .i64 0, .int .i64 0, .int .i64 0, .int .i64 0, .int .i64 0] 22)) HB.out.size (arrN 9 (invV (wholeM (lit9 1 2 0 0 1 0 0 0 1))))
  go_upto_region 5 with (first
    | (refine wpList_store_arr rfl 22 (.tmp 3) (.tmp 25) rfl rfl rfl H3 rfl hi9 ?_))
  have hg3 : w.heap.size ≤ w7.heap.size := HB.out.size
  clear H3 HB K1
  generalize (w7.alloc (.cells #[.int .i64 0, .int .i64 0, .int .i64 0, .int .i64 0, .int .i64 0, .int .i64 0, .int .i64 0, .int .i64 0, .int .i64 0] 22)).setRow w7.heap.size (arrN 9 (invV (wholeM (lit9 1 2 0 0 1 0 0 0 1)))) = w8 at *
  generalize w7.heap.size = g3 at *
  have HB := Lib.hid hb
  clear hb
  refine wp_region_quiet (C := fun w' => Below w.heap.size w w' ∧ holdsN w' g3 22 9 (invV (wholeM (lit9 1 2 0 0 1 0 0 0 1)))) (by kernel_rfl) (by kernel_rfl) ⟨HB.out.drew, K3⟩ ?_
  refine wpQuiet_val rfl (v := .agg (arrN 9 (invV (wholeM (lit9 1 2 0 0 1 0 0 0 1))))) (fun w hw => quietAt_load 22 _ rfl (run_loadAt_arr (P := Try.prog) 22 hw.2 Try.underlying22 hi9)) ?_
  (try simp only [Act.put, List.setIfInBounds_toArray, List.set_cons_zero, List.set_cons_succ])
  refine wpQuiet_val rfl (v := .agg (arrN 9 (lit9 1 (-2) 0 0 1 0 0 0 1))) (fun w hw => quietAt_build rfl 22 _ rfl _ (by kernel_rfl)) ?_
  (try simp only [Act.put, List.setIfInBounds_toArray, List.set_cons_zero, List.set_cons_succ])
  refine wpQuiet_val rfl (v := .agg (arrN 9 (wholeM (lit9 1 (-2) 0 0 1 0 0 0 1)))) (fun w hw => by unfold Oper.quietAt; go_simp; exact (whole_any (lit9 1 (-2) 0 0 1 0 0 0 1) w (by decide +kernel)).mono fun e w' h => ⟨h.1, ⟨hw.1.trans (h.2.mono hw.1.size), hw.2.kept h.2 hw.2.lt⟩⟩) ?_
  (try simp only [Act.put, List.setIfInBounds_toArray, List.set_cons_zero, List.set_cons_succ])
  refine wpQuiet_val rfl (v := .bool false) (fun w hw => by unfold Oper.quietAt; go_simp) ?_
  (try simp only [Act.put, List.setIfInBounds_toArray, List.set_cons_zero, List.set_cons_succ])
  refine wpQuiet_val rfl (v := .bool false) (fun w hw => by unfold Oper.quietAt; go_simp) ?_
  (try simp only [Act.put, List.setIfInBounds_toArray, List.set_cons_zero, List.set_cons_succ])
  refine wpQuiet_val rfl (v := .int .i64 0) (fun w hw => by unfold Oper.quietAt; go_simp) ?_
  (try simp only [Act.put, List.setIfInBounds_toArray, List.set_cons_zero, List.set_cons_succ])
  refine wpQuiet_val rfl (v := .bool false) (fun w hw => by unfold Oper.quietAt; go_simp) ?_
  (try simp only [Act.put, List.setIfInBounds_toArray, List.set_cons_zero, List.set_cons_succ])
  refine wpQuiet_val rfl (v := .bool false) (fun w hw => by unfold Oper.quietAt; go_simp) ?_
  (try simp only [Act.put, List.setIfInBounds_toArray, List.set_cons_zero, List.set_cons_succ])
  refine wpQuiet_nil ?_
  intro w' hw'
  rename_i J K' hJ hK
  refine hK _ _ ?_
  obtain ⟨hb', K3'⟩ := hw'
  have HB' := Lib.hid hb'
  clear HB hb' K3
  go_wp2_with (first | (refine wpList_build_g 35 rfl rfl 22 _ rfl (arrN 9 (lit9 32768 0 0 0 0 0 0 0 0)) (by kernel_rfl) ?_) | (refine wpList_build_g 36 rfl rfl 23 _ rfl (arrN 3 (lit3 1 0 0)) (by kernel_rfl) ?_))
  refine (apply_any (lit9 32768 0 0 0 0 0 0 0 0) (lit3 1 0 0) _).mono ?_; rintro e x1 ⟨rfl, b⟩
  replace K3' := K3'.kept b K3'.lt
  have HB := Lib.hid (HB'.out.trans (b.mono HB'.out.size))
  clear b HB'
  go_wp2_with (first | (refine wpList_build_g 38 rfl rfl 23 _ rfl (arrN 3 (lit3 1 0 0)) (by kernel_rfl) ?_) | (refine wpList_build_g 41 rfl rfl 22 _ rfl (arrN 9 (lit9 32768 0 0 0 0 0 0 0 0)) (by kernel_rfl) ?_) | (refine wpList_build_g 42 rfl rfl 23 _ rfl (arrN 3 (lit3 (-1) 0 0)) (by kernel_rfl) ?_))
  refine (apply_any (lit9 32768 0 0 0 0 0 0 0 0) (lit3 (-1) 0 0) _).mono ?_; rintro e x2 ⟨rfl, b⟩
  replace K3' := K3'.kept b K3'.lt
  have HB' := Lib.hid (HB.out.trans (b.mono HB.out.size))
  clear b HB
  go_wp2_with (first | (refine wpList_build_g 44 rfl rfl 23 _ rfl (arrN 3 (lit3 0 0 0)) (by kernel_rfl) ?_) | (refine wpList_build_g 47 rfl rfl 22 _ rfl (arrN 9 (lit9 131072 0 0 0 131072 0 0 0 131072)) (by kernel_rfl) ?_))
  refine (det_any (lit9 131072 0 0 0 131072 0 0 0 131072) _).mono ?_; rintro e x3 ⟨rfl, b⟩
  replace K3' := K3'.kept b K3'.lt
  have HB := Lib.hid (HB'.out.trans (b.mono HB'.out.size))
  clear b HB'
  go_wp2_with (first | (refine wpList_build_g 51 rfl rfl 22 _ rfl (arrN 9 (lit9 (-65536) 0 0 0 32768 0 0 0 1)) (by kernel_rfl) ?_))
  refine (det_any (lit9 (-65536) 0 0 0 32768 0 0 0 1) _).mono ?_; rintro e x4 ⟨rfl, b⟩
  replace K3' := K3'.kept b K3'.lt
  have HB' := Lib.hid (HB.out.trans (b.mono HB.out.size))
  clear b HB
  go_wp2_with (first | (refine wpList_build_g 56 rfl rfl 22 _ rfl (arrN 9 (lit9 196608 0 0 0 65536 0 0 0 65536)) (by kernel_rfl) ?_))
  refine (inverse_any (lit9 196608 0 0 0 65536 0 0 0 65536) _).mono ?_; rintro e x5 ⟨rfl, b⟩
  replace K3' := K3'.kept b K3'.lt
  have HB := Lib.hid (HB'.out.trans (b.mono HB'.out.size))
  clear b HB'
  have G3 := Lib.hid K3'
  have K4 : holdsN (x5.setRow g3 (arrN 9 (invV (lit9 196608 0 0 0 65536 0 0 0 65536)))) g3 22 9 (invV (lit9 196608 0 0 0 65536 0 0 0 65536)) := holdsN_row K3' _
  clear K3'
  go_wp2_with (first
    | (refine wpList_store_arr rfl 22 (.tmp 3) (.tmp 58) rfl rfl rfl G3.out (arrN_size _ _) hi9 ?_)
    | (refine wpList_load_arr rfl 22 (.tmp 3) rfl rfl K4 Try.underlying22 hi9 ?_)
    | (refine wpList_build_g 61 rfl rfl 22 _ rfl (arrN 9 (lit9 21845 0 0 0 65536 0 0 0 65536)) (by kernel_rfl) ?_) | (refine wpList_build_g 68 rfl rfl 22 _ rfl (arrN 9 (lit9 0 0 0 0 0 0 0 0 0)) (by kernel_rfl) ?_))
  have HB' := Lib.hid (below_setRow HB.out hg3 (arrN 9 (invV (lit9 196608 0 0 0 65536 0 0 0 65536))))
  clear HB
  refine (inverse_any (lit9 0 0 0 0 0 0 0 0 0) _).mono ?_; rintro e x6 ⟨rfl, b⟩
  have HB := Lib.hid (HB'.out.trans (b.mono HB'.out.size))
  clear b HB'
  go_wp2_with (first | (refine wpList_build_g 75 rfl rfl 22 _ rfl (arrN 9 (lit9 1048577 0 0 0 0 0 0 0 0)) (by kernel_rfl) ?_))
  refine (check_any (lit9 1048577 0 0 0 0 0 0 0 0) _).mono ?_; rintro e x7 ⟨rfl, b⟩
  have HB' := Lib.hid (HB.out.trans (b.mono HB.out.size))
  clear b HB
  go_wp2_with fail
  refine (same_any _).mono ?_; rintro e x8 ⟨rfl, b⟩
  have HB := Lib.hid (HB'.out.trans (b.mono HB'.out.size))
  clear b HB'
  go_wp2_with (first | (refine wpList_build_g 81 rfl rfl 22 _ rfl (arrN 9 (lit9 1 0 0 0 1 0 0 0 1)) (by kernel_rfl) ?_))
  refine (whole_any (lit9 1 0 0 0 1 0 0 0 1) _ (by decide +kernel)).mono ?_; rintro e x9 ⟨rfl, b⟩
  have HB' := Lib.hid (HB.out.trans (b.mono HB.out.size))
  clear b HB
  go_wp2
  go_ret
  exact ⟨rfl, HB'.out⟩
end Go.Proofs.Yteehnbgkgdhgaaa.Mx
