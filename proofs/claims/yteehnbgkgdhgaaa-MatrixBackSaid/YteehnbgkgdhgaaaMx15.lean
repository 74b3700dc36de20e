/-
  MatrixBack: the walk.
-/
import Derived.Test.YteehnbgkgdhgaaaMx10
import Derived.Test.YteehnbgkgdhgaaaMxB
namespace Go.Proofs.Yteehnbgkgdhgaaa.Mx
open Go.RowKit Go.Proofs.Yteehnbgkgdhgaaa.NM Go.Proofs.Yteehnbgkgdhgaaa.Spec Go.Proofs.YteehnbgkgdhgaaaW.PrintWords Go.Proofs.YteehnbgkgdhgaaaW.PrintMore
attribute [local go_sem] eq9 eq3 eg9 eg3 eqN_refl max2_int min2_int
set_option linter.unusedVariables false
theorem inv_bad (m : Nat → Int) (w : World) (h : invCode m ≠ 0) : Calls Try.prog 22 #[.agg (arrN 9 m)] w fun e w' => e = .returned (.tuple #[.agg (arrN 9 fun _ => 0), .int .i64 (invCode m)]) ∧ Below w.heap.size w w' := by
  have h' := inverse_any m w
  rw [invV_zero h] at h'
  exact h'
theorem inv_good (m : Nat → Int) (w : World) (h : invCode m = 0) : Calls Try.prog 22 #[.agg (arrN 9 m)] w fun e w' => e = .returned (.tuple #[.agg (arrN 9 (invV m)), .int .i64 0]) ∧ Below w.heap.size w w' := by
  have h' := inverse_any m w
  rw [h] at h'
  exact h'

set_option maxRecDepth 20000 in
set_option maxHeartbeats 4000000 in
theorem back_bad (m : Nat → Int) (w : World) (hc : invCode m ≠ 0) :
    Calls Try.prog 5 #[.agg (arrN 9 m)] w fun e w' => e = .returned (.bool true) ∧ Below w.heap.size w w' := by
  have HI := Lib.hid (fun w => inv_bad m w hc)
  have hn : (invCode m == 0) = false := by simpa using hc
  generalize invCode m = c at *
  go_enter Try.func5, Try.ntmps5
  go_upto_region 1 with fail
  have h0 : holdsN (w.alloc (.cells (arrN 9 m) 22)) (w.heap.size) 22 9 m := holdsN_new w 22 9 m
  have hb : Below w.heap.size w (w.alloc (.cells (arrN 9 m) 22)) := (Below.refl _ _).alloc (Nat.le_refl _) _
  have hs : w.heap.size < (w.alloc (.cells (arrN 9 m) 22)).heap.size := by simp
  generalize (w.alloc (.cells (arrN 9 m) 22)) = wc at *
  generalize hB : w.heap.size = B at *
  have HB := Lib.hid hB
  clear hB
  go_wp2_with (refine wpList_load_arr_g rfl 22 (.tmp 1) rfl rfl h0 Try.underlying22 hi9 ?_)
  refine (HI.out _).mono ?_; rintro e w1 ⟨rfl, b1⟩
  have g0 := h0.kept b1 h0.lt
  have gb := hb.trans (b1.mono (by rw [← HB.out]; exact hb.size))
  clear h0 hb b1
  have H3 : (w1.alloc (.cells #[.int .i64 0, .int .i64 0, .int .i64 0, .int .i64 0, .int .i64 0, .int .i64 0, .int .i64 0, .int .i64 0, .int .i64 0] 22)).heap[w1.heap.size]? = some (.cells #[.int .i64 0, .int .i64 0, .int .i64 0, .int .i64 0, .int .i64 0, .int .i64 0, .int .i64 0, .int .i64 0, .int .i64 0] 22 (0, 0)) := holdsN_new w1 22 9 (fun _ => 0)
  have k3 : holdsN ((w1.alloc (.cells #[.int .i64 0, .int .i64 0, .int .i64 0, .int .i64 0, .int .i64 0, .int .i64 0, .int .i64 0, .int .i64 0, .int .i64 0] 22)).setRow w1.heap.size (arrN 9 (fun _ => 0))) w1.heap.size 22 9 (fun _ => 0) := holdsN_row H3 _
  have g0' := ((g0.alloc (.cells #[.int .i64 0, .int .i64 0, .int .i64 0, .int .i64 0, .int .i64 0, .int .i64 0, .int .i64 0, .int .i64 0, .int .i64 0] 22)).setRowOther (Nat.ne_of_lt g0.lt) (arrN 9 (fun _ => 0)))
  have hb' := below_setRow (gb.alloc (by rw [← HB.out]; exact gb.size) (.cells #[.int .i64 0, .int .i64 0, .int .i64 0, .int .i64 0, .int .i64 0, .int .i64 0, .int .i64 0, .int .i64 0, .int .i64 0] 22)) (by rw [← HB.out]; exact gb.size) (arrN 9 (fun _ => 0))
  go_upto_region 2 with (first | (refine wpList_store_arr rfl 22 (.tmp 3) (.tmp 14) rfl rfl rfl H3 rfl hi9 ?_))
  clear H3 g0 gb
  generalize ((w1.alloc (.cells #[.int .i64 0, .int .i64 0, .int .i64 0, .int .i64 0, .int .i64 0, .int .i64 0, .int .i64 0, .int .i64 0, .int .i64 0] 22)).setRow w1.heap.size (arrN 9 (fun _ => 0))) = w1' at *
  generalize w1.heap.size = gi at *
  go_wp2_with fail
  refine (awake_any _).mono ?_; rintro e w3 ⟨rfl, b1⟩
  have g0 := g0'.kept b1 g0'.lt
  have g3 := k3.kept b1 k3.lt
  have gb := hb'.trans (b1.mono (by rw [← HB.out]; exact hb'.size))
  clear g0' k3 hb' b1
  go_wp2_with (first | (refine wpList_load_arr_g rfl 22 (.tmp 3) rfl rfl g3 Try.underlying22 hi9 ?_) | (refine wpList_build_g 21 rfl rfl 22 _ rfl (arrN 9 fun _ => 0) (by kernel_rfl) ?_))
  go_ret
  exact ⟨rfl, by rw [HB.out]; exact gb⟩

set_option maxRecDepth 20000 in
set_option maxHeartbeats 4000000 in
theorem back_good (m : Nat → Int) (w : World) (hc : invCode m = 0) :
    Calls Try.prog 5 #[.agg (arrN 9 m)] w fun e w' => e = .returned (.bool true) ∧ Below w.heap.size w w' := by
  have HI := Lib.hid (fun w => inv_good m w hc)
  have okm := (inv_parts hc).1
  have okt := invV_ok hc
  have cm := codeM_ok okm
  have ct := codeM_ok okt
  have HBK : Hid (∀ i j, i < 3 → j < 3 → 2 * ((dot (invV m) m i j 3 - (if i = j then 4294967296 else 0)).natAbs : Int) ≤ sizeS m j 3) := fun i j hi hj => back hc i j hi hj
  have HDB : Hid (∀ (i j k : Nat), i < 3 → j < 3 → k ≤ 3 → -(1099511627776 * (k : Int)) ≤ dot (invV m) m i j k ∧ dot (invV m) m i j k ≤ 1099511627776 * (k : Int)) := fun i j k hi hj hk => dot_bound okt okm i j hi hj k hk
  have HSB : Hid (∀ (j k : Nat), j < 3 → k ≤ 3 → 0 ≤ sizeS m j k ∧ sizeS m j k ≤ 1048576 * (k : Int)) := fun j k hj hk => sizeS_bound okm j hj k hk
  have HDS : Hid (∀ i j k, dot (invV m) m i j (k + 1) = dot (invV m) m i j k + invV m (3 * i + k) * m (3 * k + j)) := fun i j k => rfl
  have HSS : Hid (∀ j k, sizeS m j (k + 1) = sizeS m j k + (if m (3 * k + j) < -m (3 * k + j) then -m (3 * k + j) else m (3 * k + j))) := fun j k => rfl
  have HD0 : Hid (∀ i j, dot (invV m) m i j 0 = 0) := fun i j => rfl
  have HS0 : Hid (∀ j, sizeS m j 0 = 0) := fun j => rfl
  have OKM := Lib.hid okm
  have OKT := Lib.hid okt
  clear hc okm okt
  generalize invV m = t at *
  go_enter Try.func5, Try.ntmps5
  go_upto_region 1 with fail
  have h0 : holdsN (w.alloc (.cells (arrN 9 m) 22)) (w.heap.size) 22 9 m := holdsN_new w 22 9 m
  have hb : Below w.heap.size w (w.alloc (.cells (arrN 9 m) 22)) := (Below.refl _ _).alloc (Nat.le_refl _) _
  have hs : w.heap.size < (w.alloc (.cells (arrN 9 m) 22)).heap.size := by simp
  generalize (w.alloc (.cells (arrN 9 m) 22)) = wc at *
  generalize hB : w.heap.size = B at *
  have HB := Lib.hid hB
  clear hB
  go_wp2_with (refine wpList_load_arr_g rfl 22 (.tmp 1) rfl rfl h0 Try.underlying22 hi9 ?_)
  refine (HI.out _).mono ?_; rintro e w1 ⟨rfl, b1⟩
  have g0 := h0.kept b1 h0.lt
  have gb := hb.trans (b1.mono (by rw [← HB.out]; exact hb.size))
  clear h0 hb b1
  have hgi : B < w1.heap.size := g0.lt
  have H3 : (w1.alloc (.cells #[.int .i64 0, .int .i64 0, .int .i64 0, .int .i64 0, .int .i64 0, .int .i64 0, .int .i64 0, .int .i64 0, .int .i64 0] 22)).heap[w1.heap.size]? = some (.cells #[.int .i64 0, .int .i64 0, .int .i64 0, .int .i64 0, .int .i64 0, .int .i64 0, .int .i64 0, .int .i64 0, .int .i64 0] 22 (0, 0)) := holdsN_new w1 22 9 (fun _ => 0)
  have k3 : holdsN ((w1.alloc (.cells #[.int .i64 0, .int .i64 0, .int .i64 0, .int .i64 0, .int .i64 0, .int .i64 0, .int .i64 0, .int .i64 0, .int .i64 0] 22)).setRow w1.heap.size (arrN 9 (t))) w1.heap.size 22 9 (t) := holdsN_row H3 _
  have g0' := ((g0.alloc (.cells #[.int .i64 0, .int .i64 0, .int .i64 0, .int .i64 0, .int .i64 0, .int .i64 0, .int .i64 0, .int .i64 0, .int .i64 0] 22)).setRowOther (Nat.ne_of_lt g0.lt) (arrN 9 (t)))
  have hb' := below_setRow (gb.alloc (by rw [← HB.out]; exact gb.size) (.cells #[.int .i64 0, .int .i64 0, .int .i64 0, .int .i64 0, .int .i64 0, .int .i64 0, .int .i64 0, .int .i64 0, .int .i64 0] 22)) (by rw [← HB.out]; exact gb.size) (arrN 9 (t))
  go_upto_region 2 with (first | (refine wpList_store_arr rfl 22 (.tmp 3) (.tmp 14) rfl rfl rfl H3 rfl hi9 ?_))
  clear H3 g0 gb
  generalize ((w1.alloc (.cells #[.int .i64 0, .int .i64 0, .int .i64 0, .int .i64 0, .int .i64 0, .int .i64 0, .int .i64 0, .int .i64 0, .int .i64 0] 22)).setRow w1.heap.size (arrN 9 (t))) = w1' at *
  generalize w1.heap.size = gi at *
  go_wp2_with fail
  refine (awake_any _).mono ?_; rintro e w3 ⟨rfl, b1⟩
  have g0 := g0'.kept b1 g0'.lt
  have g3 := k3.kept b1 k3.lt
  have gb := hb'.trans (b1.mono (by rw [← HB.out]; exact hb'.size))
  clear g0' k3 hb' b1
  go_wp2_with (refine wpList_load_arr_g rfl 22 (.tmp 1) rfl rfl g0 Try.underlying22 hi9 ?_)
  refine (check_any m _).mono ?_; rintro e w4 ⟨rfl, b1⟩
  have k0 := g0.kept b1 g0.lt
  have k3 := g3.kept b1 g3.lt
  have kb := gb.trans (b1.mono (by rw [← HB.out]; exact gb.size))
  clear g0 g3 gb b1
  go_wp2_with (refine wpList_load_arr_g rfl 22 (.tmp 3) rfl rfl k3 Try.underlying22 hi9 ?_)
  refine (check_any t _).mono ?_; rintro e w5 ⟨rfl, b1⟩
  have g0 := k0.kept b1 k0.lt
  have g3 := k3.kept b1 k3.lt
  have gb := kb.trans (b1.mono (by rw [← HB.out]; exact kb.size))
  clear k0 k3 kb b1
  go_wp2_with fail
  clear cm ct HI
  go_loopw [2, 5, 31] (fun v2 v5 v31 wr => ∃ k : Nat, k ≤ 9 ∧ v31 = .int .i64 k ∧ holdsN wr B 22 9 m ∧ holdsN wr gi 22 9 t ∧ Below B w wr) (fun _ _ v _ => 9 - (intOf v).toNat)
  case atStart => exact ⟨0, by omega, rfl, g0, g3, gb⟩
  case round =>
    obtain ⟨k, hk, rfl, k0, k3, kb⟩ := hrel
    clear g0 g3 gb
    by_cases hk9 : k < 9
    · have c1 := k3.cell k hk9
      have c2 := k0.cell k hk9
      have r1 := OKT.out k hk9
      have r2 := OKM.out k hk9
      generalize t k = x at *
      generalize m k = y at *
      obtain ⟨r1a, r1b⟩ := r1
      obtain ⟨r2a, r2b⟩ := r2
      go_wp2
      go_roundw
      case rel => exact ⟨k + 1, by omega, by go_num, k0, k3, kb⟩
      case measure => simp [intOf]; omega
    · obtain rfl : k = 9 := by omega
      go_wp2_with fail
      rw [show ((9 : Nat) : Int) = (9 : Int) from rfl]
      go_loopw [2, 57] (fun _ v57 wr => ∃ i : Nat, i ≤ 3 ∧ v57 = .int .i64 i ∧ holdsN wr B 22 9 m ∧ holdsN wr gi 22 9 t ∧ Below B w wr) (fun _ v _ => 3 - (intOf v).toNat)
      case atStart => exact ⟨0, by omega, rfl, k0, k3, kb⟩
      case round =>
        obtain ⟨i, hi, rfl, k0, k3, kb⟩ := hrel
        by_cases hi3 : i < 3
        · go_wp2_with fail
          obtain ⟨wo, hwo⟩ : ∃ wo : World, wo = wr := ⟨_, rfl⟩
          subst hwo
          try rw [show decide ((i : Int) < 3) = true from decide_eq_true (by omega)]
          go_loopw [2, 60] (fun _ v60 wr => ∃ j : Nat, j ≤ 3 ∧ v60 = .int .i64 j ∧ holdsN wr B 22 9 m ∧ holdsN wr gi 22 9 t ∧ Below B w wr) (fun _ v _ => 3 - (intOf v).toNat)
          case atStart => exact ⟨0, by omega, rfl, k0, k3, kb⟩
          case round =>
            obtain ⟨j, hj, rfl, k0, k3, kb⟩ := hrel
            by_cases hj3 : j < 3
            · go_wp2_with fail
              obtain ⟨wo, hwo⟩ : ∃ wo : World, wo = wr := ⟨_, rfl⟩
              subst hwo
              try rw [show decide ((j : Int) < 3) = true from decide_eq_true (by omega)]
              go_loopw [8, 9, 63] (fun v8 v9 v63 wr => ∃ k : Nat, k ≤ 3 ∧ v8 = .int .i64 (dot t m i j k) ∧ v9 = .int .i64 (sizeS m j k) ∧ v63 = .int .i64 k ∧ holdsN wr B 22 9 m ∧ holdsN wr gi 22 9 t ∧ Below B w wr) (fun _ _ v _ => 3 - (intOf v).toNat)
              case atStart => exact ⟨0, by omega, by rw [HD0.out], by rw [HS0.out], rfl, k0, k3, kb⟩
              case round =>
                obtain ⟨k, hk, rfl, rfl, rfl, k0, k3, kb⟩ := hrel
                by_cases hk3 : k < 3
                · have d0 := HDB.out i j k hi3 hj3 (by omega)
                  have d1 := HDB.out i j (k + 1) hi3 hj3 (by omega)
                  have s0 := HSB.out j k hj3 (by omega)
                  have s1 := HSB.out j (k + 1) hj3 (by omega)
                  rw [HDS.out i j k] at d1
                  rw [HSS.out j k] at s1
                  have HD1 := Lib.hid (HDS.out i j k)
                  have HS1 := Lib.hid (HSS.out j k)
                  have mb := mul20 (OKT.out (3 * i + k) (by omega)) (OKM.out (3 * k + j) (by omega))
                  have yb := OKM.out (3 * k + j) (by omega)
                  have HC1 : Hid (∀ w', holdsN w' gi 22 9 t → w'.cell? ⟨gi, 3 * i + k, none⟩ = some (.int .i64 (t (3 * i + k)))) := fun w' h => h.cell _ (by omega)
                  have HC2 : Hid (∀ w', holdsN w' B 22 9 m → w'.cell? ⟨B, 3 * k + j, none⟩ = some (.int .i64 (m (3 * k + j)))) := fun w' h => h.cell _ (by omega)
                  generalize dot t m i j k = S at *
                  generalize sizeS m j k = Z at *
                  generalize t (3 * i + k) = x at *
                  generalize m (3 * k + j) = y at *
                  have w1 : IntKind.i64.wrap (x * y) = x * y := IntWalk.i64_in _ (by omega)
                  have w2 : IntKind.i64.wrap (S + x * y) = S + x * y := IntWalk.i64_in _ (by omega)
                  have w3 : IntKind.i64.wrap (-y) = -y := IntWalk.i64_in _ (by omega)
                  have w4 : IntKind.i64.wrap (Z + (if y < -y then -y else y)) = Z + (if y < -y then -y else y) := IntWalk.i64_in _ (by omega)
                  have v1 : IntKind.i64.wrap (3 * (i : Int)) = 3 * (i : Int) := IntWalk.i64_in _ (by omega)
                  have v2 : IntKind.i64.wrap (3 * (i : Int) + (k : Int)) = 3 * (i : Int) + (k : Int) := IntWalk.i64_in _ (by omega)
                  have v3 : IntKind.i64.wrap (3 * (k : Int)) = 3 * (k : Int) := IntWalk.i64_in _ (by omega)
                  have v4 : IntKind.i64.wrap (3 * (k : Int) + (j : Int)) = 3 * (k : Int) + (j : Int) := IntWalk.i64_in _ (by omega)
                  have x1a : (0 : Int) ≤ 3 * (i : Int) + (k : Int) := by omega
                  have x1b : 3 * (i : Int) + (k : Int) < 9 := by omega
                  have x1c : (3 * (i : Int) + (k : Int)).toNat = 3 * i + k := by omega
                  have x2a : (0 : Int) ≤ 3 * (k : Int) + (j : Int) := by omega
                  have x2b : 3 * (k : Int) + (j : Int) < 9 := by omega
                  have x2c : (3 * (k : Int) + (j : Int)).toNat = 3 * k + j := by omega
                  clear d0 d1 s0 s1 mb yb
                  go_wp2_with fail
                  refine wp_region_quiet (C := fun w' => Below B w w' ∧ holdsN w' B 22 9 m ∧ holdsN w' gi 22 9 t) (by kernel_rfl) (by kernel_rfl) ⟨kb.drew, k0, k3⟩ ?_
                  refine wpQuiet_val rfl (v := .int .i64 (S)) (fun w hw => by unfold Oper.quietAt; go_simp) ?_
                  (try simp only [Act.put, List.setIfInBounds_toArray, List.set_cons_zero, List.set_cons_succ])
                  refine wpQuiet_val rfl (v := .int .i64 ((i : Int))) (fun w hw => by unfold Oper.quietAt; go_simp) ?_
                  (try simp only [Act.put, List.setIfInBounds_toArray, List.set_cons_zero, List.set_cons_succ])
                  refine wpQuiet_val rfl (v := .int .i64 (3 * (i : Int))) (fun w hw => by unfold Oper.quietAt; go_simp) ?_
                  (try simp only [Act.put, List.setIfInBounds_toArray, List.set_cons_zero, List.set_cons_succ])
                  refine wpQuiet_val rfl (v := .int .i64 ((k : Int))) (fun w hw => by unfold Oper.quietAt; go_simp) ?_
                  (try simp only [Act.put, List.setIfInBounds_toArray, List.set_cons_zero, List.set_cons_succ])
                  refine wpQuiet_val rfl (v := .int .i64 (3 * (i : Int) + k)) (fun w hw => by unfold Oper.quietAt; go_simp) ?_
                  (try simp only [Act.put, List.setIfInBounds_toArray, List.set_cons_zero, List.set_cons_succ])
                  refine wpQuiet_val rfl (v := .pointer (some ⟨gi, 3 * i + k, none⟩)) (fun w hw => by unfold Oper.quietAt; go_simp) ?_
                  (try simp only [Act.put, List.setIfInBounds_toArray, List.set_cons_zero, List.set_cons_succ])
                  refine wpQuiet_val rfl (v := .int .i64 (x)) (fun w hw => by have hc := HC1.out _ hw.2.2; unfold Oper.quietAt; go_simp) ?_
                  (try simp only [Act.put, List.setIfInBounds_toArray, List.set_cons_zero, List.set_cons_succ])
                  refine wpQuiet_val rfl (v := .int .i64 ((k : Int))) (fun w hw => by unfold Oper.quietAt; go_simp) ?_
                  (try simp only [Act.put, List.setIfInBounds_toArray, List.set_cons_zero, List.set_cons_succ])
                  refine wpQuiet_val rfl (v := .int .i64 (3 * (k : Int))) (fun w hw => by unfold Oper.quietAt; go_simp) ?_
                  (try simp only [Act.put, List.setIfInBounds_toArray, List.set_cons_zero, List.set_cons_succ])
                  refine wpQuiet_val rfl (v := .int .i64 ((j : Int))) (fun w hw => by unfold Oper.quietAt; go_simp) ?_
                  (try simp only [Act.put, List.setIfInBounds_toArray, List.set_cons_zero, List.set_cons_succ])
                  refine wpQuiet_val rfl (v := .int .i64 (3 * (k : Int) + j)) (fun w hw => by unfold Oper.quietAt; go_simp) ?_
                  (try simp only [Act.put, List.setIfInBounds_toArray, List.set_cons_zero, List.set_cons_succ])
                  refine wpQuiet_val rfl (v := .pointer (some ⟨B, 3 * k + j, none⟩)) (fun w hw => by unfold Oper.quietAt; go_simp) ?_
                  (try simp only [Act.put, List.setIfInBounds_toArray, List.set_cons_zero, List.set_cons_succ])
                  refine wpQuiet_val rfl (v := .int .i64 (y)) (fun w hw => by have hc := HC2.out _ hw.2.1; unfold Oper.quietAt; go_simp) ?_
                  (try simp only [Act.put, List.setIfInBounds_toArray, List.set_cons_zero, List.set_cons_succ])
                  refine wpQuiet_val rfl (v := .int .i64 (x * y)) (fun w hw => by unfold Oper.quietAt; go_simp) ?_
                  (try simp only [Act.put, List.setIfInBounds_toArray, List.set_cons_zero, List.set_cons_succ])
                  refine wpQuiet_val rfl (v := .int .i64 (S + x * y)) (fun w hw => by unfold Oper.quietAt; go_simp) ?_
                  (try simp only [Act.put, List.setIfInBounds_toArray, List.set_cons_zero, List.set_cons_succ])
                  refine wpQuiet_val rfl (v := .int .i64 (S + x * y)) (fun w hw => by unfold Oper.quietAt; go_simp) ?_
                  (try simp only [Act.put, List.setIfInBounds_toArray, List.set_cons_zero, List.set_cons_succ])
                  refine wpQuiet_nil ?_
                  intro w' hw'
                  rename_i J K' hK
                  refine hK _ _ ?_
                  go_wp2_with fail
                  obtain ⟨kb', k0', k3'⟩ := hw'
                  clear k0 k3 kb
                  refine wp_region_quiet (C := fun w' => Below B w w' ∧ holdsN w' B 22 9 m ∧ holdsN w' gi 22 9 t) (by kernel_rfl) (by kernel_rfl) ⟨kb'.drew, k0', k3'⟩ ?_
                  refine wpQuiet_val rfl (v := .int .i64 (Z)) (fun w hw => by unfold Oper.quietAt; go_simp) ?_
                  (try simp only [Act.put, List.setIfInBounds_toArray, List.set_cons_zero, List.set_cons_succ])
                  refine wpQuiet_val rfl (v := .int .i64 ((k : Int))) (fun w hw => by unfold Oper.quietAt; go_simp) ?_
                  (try simp only [Act.put, List.setIfInBounds_toArray, List.set_cons_zero, List.set_cons_succ])
                  refine wpQuiet_val rfl (v := .int .i64 (3 * (k : Int))) (fun w hw => by unfold Oper.quietAt; go_simp) ?_
                  (try simp only [Act.put, List.setIfInBounds_toArray, List.set_cons_zero, List.set_cons_succ])
                  refine wpQuiet_val rfl (v := .int .i64 ((j : Int))) (fun w hw => by unfold Oper.quietAt; go_simp) ?_
                  (try simp only [Act.put, List.setIfInBounds_toArray, List.set_cons_zero, List.set_cons_succ])
                  refine wpQuiet_val rfl (v := .int .i64 (3 * (k : Int) + j)) (fun w hw => by unfold Oper.quietAt; go_simp) ?_
                  (try simp only [Act.put, List.setIfInBounds_toArray, List.set_cons_zero, List.set_cons_succ])
                  refine wpQuiet_val rfl (v := .pointer (some ⟨B, 3 * k + j, none⟩)) (fun w hw => by unfold Oper.quietAt; go_simp) ?_
                  (try simp only [Act.put, List.setIfInBounds_toArray, List.set_cons_zero, List.set_cons_succ])
                  refine wpQuiet_val rfl (v := .int .i64 (y)) (fun w hw => by have hc := HC2.out _ hw.2.1; unfold Oper.quietAt; go_simp) ?_
                  (try simp only [Act.put, List.setIfInBounds_toArray, List.set_cons_zero, List.set_cons_succ])
                  refine wpQuiet_val rfl (v := .int .i64 ((k : Int))) (fun w hw => by unfold Oper.quietAt; go_simp) ?_
                  (try simp only [Act.put, List.setIfInBounds_toArray, List.set_cons_zero, List.set_cons_succ])
                  refine wpQuiet_val rfl (v := .int .i64 (3 * (k : Int))) (fun w hw => by unfold Oper.quietAt; go_simp) ?_
                  (try simp only [Act.put, List.setIfInBounds_toArray, List.set_cons_zero, List.set_cons_succ])
                  refine wpQuiet_val rfl (v := .int .i64 ((j : Int))) (fun w hw => by unfold Oper.quietAt; go_simp) ?_
                  (try simp only [Act.put, List.setIfInBounds_toArray, List.set_cons_zero, List.set_cons_succ])
                  refine wpQuiet_val rfl (v := .int .i64 (3 * (k : Int) + j)) (fun w hw => by unfold Oper.quietAt; go_simp) ?_
                  (try simp only [Act.put, List.setIfInBounds_toArray, List.set_cons_zero, List.set_cons_succ])
                  refine wpQuiet_val rfl (v := .pointer (some ⟨B, 3 * k + j, none⟩)) (fun w hw => by unfold Oper.quietAt; go_simp) ?_
                  (try simp only [Act.put, List.setIfInBounds_toArray, List.set_cons_zero, List.set_cons_succ])
                  refine wpQuiet_val rfl (v := .int .i64 (y)) (fun w hw => by have hc := HC2.out _ hw.2.1; unfold Oper.quietAt; go_simp) ?_
                  (try simp only [Act.put, List.setIfInBounds_toArray, List.set_cons_zero, List.set_cons_succ])
                  refine wpQuiet_val rfl (v := .int .i64 (-y)) (fun w hw => by unfold Oper.quietAt; go_simp) ?_
                  (try simp only [Act.put, List.setIfInBounds_toArray, List.set_cons_zero, List.set_cons_succ])
                  refine wpQuiet_val rfl (v := .int .i64 (if y < -y then -y else y)) (fun w hw => by unfold Oper.quietAt; go_simp) ?_
                  (try simp only [Act.put, List.setIfInBounds_toArray, List.set_cons_zero, List.set_cons_succ])
                  refine wpQuiet_val rfl (v := .int .i64 (Z + (if y < -y then -y else y))) (fun w hw => by unfold Oper.quietAt; go_simp) ?_
                  (try simp only [Act.put, List.setIfInBounds_toArray, List.set_cons_zero, List.set_cons_succ])
                  refine wpQuiet_val rfl (v := .int .i64 (Z + (if y < -y then -y else y))) (fun w hw => by unfold Oper.quietAt; go_simp) ?_
                  (try simp only [Act.put, List.setIfInBounds_toArray, List.set_cons_zero, List.set_cons_succ])
                  refine wpQuiet_nil ?_
                  intro wq hw2
                  obtain ⟨kb, k0, k3⟩ := hw2
                  go_wp2
                  go_roundw
                  case rel => exact ⟨k + 1, by omega, by rw [HD1.out], by rw [HS1.out], by go_num, k0, k3, kb⟩
                  case measure => simp [intOf]; omega
                · obtain rfl : k = 3 := by omega
                  have hbk := HBK.out i j hi3 hj3
                  have dB := HDB.out i j 3 hi3 hj3 (by omega)
                  have sB := HSB.out j 3 hj3 (by omega)
                  by_cases hij : i = j
                  · subst hij
                    rw [if_pos rfl] at hbk
                    generalize dot t m i i 3 = S at *
                    generalize sizeS m i 3 = Z at *
                    obtain ⟨s, hs⟩ : ∃ s, s = S - 4294967296 := ⟨_, rfl⟩
                    have w1 : IntKind.i64.wrap (S - 4294967296) = s := by rw [hs]; exact IntWalk.i64_in _ (by omega)
                    obtain ⟨n, hn⟩ : ∃ n : Int, n = (s.natAbs : Int) := ⟨_, rfl⟩
                    rw [← hs, ← hn] at hbk
                    have w2 : IntKind.i64.wrap (-s) = -s := IntWalk.i64_in _ (by omega)
                    have hmx : (if s < -s then -s else s) = n := by split <;> omega
                    have w3 : IntKind.i64.wrap (2 * n) = 2 * n := IntWalk.i64_in _ (by omega)
                    have hle : ¬ (Z < 2 * n) := by omega
                    clear hn hs dB sB hbk
                    go_wp2
                    go_roundw
                    case rel => exact ⟨i + 1, by omega, by go_num, k0, k3, kb⟩
                    case measure => simp [intOf]; omega
                  · rw [if_neg hij, Int.sub_zero] at hbk
                    have he : ((i : Int) == (j : Int)) = false := by
                      have : (i : Int) ≠ (j : Int) := by omega
                      simpa using this
                    generalize dot t m i j 3 = s at *
                    generalize sizeS m j 3 = Z at *
                    obtain ⟨n, hn⟩ : ∃ n : Int, n = (s.natAbs : Int) := ⟨_, rfl⟩
                    rw [← hn] at hbk
                    have w2 : IntKind.i64.wrap (-s) = -s := IntWalk.i64_in _ (by omega)
                    have hmx : (if s < -s then -s else s) = n := by split <;> omega
                    have w3 : IntKind.i64.wrap (2 * n) = 2 * n := IntWalk.i64_in _ (by omega)
                    have hle : ¬ (Z < 2 * n) := by omega
                    clear hn dB sB hbk
                    go_wp2
                    go_roundw
                    case rel => exact ⟨j + 1, by omega, by go_num, k0, k3, kb⟩
                    case measure => simp [intOf]; omega
            · obtain rfl : j = 3 := by omega
              rw [show ((3 : Nat) : Int) = (3 : Int) from rfl]
              go_wp2
              go_roundw
              case rel => exact ⟨i + 1, by omega, by go_num, k0, k3, kb⟩
              case measure => simp [intOf]; omega
        · obtain rfl : i = 3 := by omega
          go_wp2
          go_ret
          exact ⟨rfl, by rw [HB.out]; exact kb⟩

theorem back_walk (m : Nat → Int) (w : World) :
    Calls Try.prog 5 #[.agg (arrN 9 m)] w fun e w' => e = .returned (.bool true) ∧ Below w.heap.size w w' := by
  by_cases h : invCode m = 0
  · exact back_good m w h
  · exact back_bad m w h
end Go.Proofs.Yteehnbgkgdhgaaa.Mx
