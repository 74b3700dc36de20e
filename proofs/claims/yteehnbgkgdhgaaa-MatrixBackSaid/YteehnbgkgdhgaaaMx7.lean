/-
  Determinants: matrix.minor, exact and Det.
-/
import Derived.Test.YteehnbgkgdhgaaaMx5
import Derived.IntWalk
import Derived.Deep.Quiet
namespace Go.Proofs.Yteehnbgkgdhgaaa.Mx
open Go.RowKit Go.Proofs.Yteehnbgkgdhgaaa.NM Go.Proofs.Yteehnbgkgdhgaaa.Spec Go.Proofs.YteehnbgkgdhgaaaW.PrintWords Go.Proofs.YteehnbgkgdhgaaaW.PrintMore
set_option linter.unusedVariables false

/-- the cofactor of the place (r, c) -/
def minorS (m : Nat → Int) (r c : Nat) : Int := m (3 * ((r + 1) % 3) + (c + 1) % 3) * m (3 * ((r + 2) % 3) + (c + 2) % 3) - m (3 * ((r + 1) % 3) + (c + 2) % 3) * m (3 * ((r + 2) % 3) + (c + 1) % 3)
def exactS (m : Nat → Int) : Int := m 0 * minorS m 0 0 + m 1 * minorS m 0 1 + m 2 * minorS m 0 2
def detS (m : Nat → Int) : Int := if okM m then divS (exactS m) 4294967296 else 0
theorem minorS_bound {m : Nat → Int} (h : okM m) (r c : Nat) : -2199023255552 ≤ minorS m r c ∧ minorS m r c ≤ 2199023255552 := by
  have h1 := mul20 (h (3 * ((r + 1) % 3) + (c + 1) % 3) (by omega)) (h (3 * ((r + 2) % 3) + (c + 2) % 3) (by omega))
  have h2 := mul20 (h (3 * ((r + 1) % 3) + (c + 2) % 3) (by omega)) (h (3 * ((r + 2) % 3) + (c + 1) % 3) (by omega))
  unfold minorS
  omega
theorem mul61 {x y : Int} (hx : -1048576 ≤ x ∧ x ≤ 1048576) (hy : -2199023255552 ≤ y ∧ y ≤ 2199023255552) : -2305843009213693952 ≤ x * y ∧ x * y ≤ 2305843009213693952 := by
  have h1 : (x * y).natAbs = x.natAbs * y.natAbs := Int.natAbs_mul x y
  have h2 : x.natAbs * y.natAbs ≤ 1048576 * 2199023255552 := Nat.mul_le_mul (by omega) (by omega)
  omega
theorem exactS_bound {m : Nat → Int} (h : okM m) : -6917529027641081856 ≤ exactS m ∧ exactS m ≤ 6917529027641081856 := by
  have h0 := mul61 (h 0 (by omega)) (minorS_bound h 0 0)
  have h1 := mul61 (h 1 (by omega)) (minorS_bound h 0 1)
  have h2 := mul61 (h 2 (by omega)) (minorS_bound h 0 2)
  unfold exactS
  omega

set_option maxHeartbeats 1000000 in
theorem minor_any (m : Nat → Int) (r c : Nat) (w : World) (h : okM m) (hr : r < 3) (hc : c < 3) :
    Calls Try.prog 58 #[.agg (arrN 9 m), .int .i64 (r : Int), .int .i64 (c : Int)] w fun e w' => e = .returned (.int .i64 (minorS m r c)) ∧ Below w.heap.size w w' := by
  obtain ⟨r1, hr1⟩ : ∃ r1, r1 = (r + 1) % 3 := ⟨_, rfl⟩
  obtain ⟨r2, hr2⟩ : ∃ r2, r2 = (r + 2) % 3 := ⟨_, rfl⟩
  obtain ⟨c1, hc1⟩ : ∃ c1, c1 = (c + 1) % 3 := ⟨_, rfl⟩
  obtain ⟨c2, hc2⟩ : ∃ c2, c2 = (c + 2) % 3 := ⟨_, rfl⟩
  have e1 : ((r : Int) + 1) % 3 = (r1 : Int) := by omega
  have e2 : ((r : Int) + 2) % 3 = (r2 : Int) := by omega
  have e3 : ((c : Int) + 1) % 3 = (c1 : Int) := by omega
  have e4 : ((c : Int) + 2) % 3 = (c2 : Int) := by omega
  have hS : minorS m r c = m (3 * r1 + c1) * m (3 * r2 + c2) - m (3 * r1 + c2) * m (3 * r2 + c1) := by unfold minorS; rw [← hr1, ← hr2, ← hc1, ← hc2]
  have l1 : r1 < 3 := by omega
  have l2 : r2 < 3 := by omega
  have l3 : c1 < 3 := by omega
  have l4 : c2 < 3 := by omega
  clear hr1 hr2 hc1 hc2
  have hh := holdsN_new w 22 9 m
  have d1 := hh.cell (3 * r1 + c1) (by omega)
  have d2 := hh.cell (3 * r2 + c2) (by omega)
  have d3 := hh.cell (3 * r1 + c2) (by omega)
  have d4 := hh.cell (3 * r2 + c1) (by omega)
  obtain ⟨p1, p2⟩ := mul20 (h (3 * r1 + c1) (by omega)) (h (3 * r2 + c2) (by omega))
  obtain ⟨p3, p4⟩ := mul20 (h (3 * r1 + c2) (by omega)) (h (3 * r2 + c1) (by omega))
  have HS := Lib.hid hS
  clear hS hh h
  generalize m (3 * r1 + c1) = x1 at *
  generalize m (3 * r2 + c2) = x2 at *
  generalize m (3 * r1 + c2) = x3 at *
  generalize m (3 * r2 + c1) = x4 at *
  go_enter Try.func58, Try.ntmps58
  go_wp2_with fail
  go_quiet (fail)
  go_wp2
  go_ret
  exact ⟨ret_int HS.out.symm, below_drewN ((Below.refl _ _).alloc (Nat.le_refl _) _) _⟩

theorem wpQuiet_val {P : Program} {ops : Array Oper} {C : World → Prop} {Q : Act → Prop} {a : Act} {o : Oper} {rest : List Oper} {v : Value} (hw : Region.wanted o (yielded ops a.tmps) = true) (hv : ∀ w, C w → o.quietAt P a C w v)
    (h : wpQuiet P ops C Q rest (a.put o.dst v)) : wpQuiet P ops C Q (o :: rest) a :=
  wpQuiet_step fun K hK => by rw [if_pos hw]; exact ⟨v, hv, hK _ h⟩
theorem run_loadAt_arr {P : Program} (ty : TypeId) {w : World} {g t n : Nat} {m : Nat → Int} (h : holdsN w g t n m) {k : Nat} {e : TypeId} (hu : P.underlying ty = some (.array k e)) (hi : (P.info? ty).map (·.size) = some n) :
    (Instr.loadAt ty (.pointer (some ⟨g, 0, none⟩))).run P w = .ok (.agg (arrN n m)) w := by
  have := run_loadVar_row (P := P) w g t ty (arrN n m) (0, 0) _ h hu rfl (by rw [arrN_size]; exact hi)
  simp [Instr.loadAt, Instr.sureAddr, this]

theorem quietAt_load {P : Program} {o : Oper} {a : Act} {C : World → Prop} {w : World} {v : Value} (ty : TypeId) (x : Operand) (ho : o.op = .load ty x) (hr : (Instr.loadAt ty (a.eval x)).run P w = .ok v w) : o.quietAt P a C w v := by
  unfold Oper.quietAt execOp
  simp only [ho, Sem.run_bind, hr, Result.andThen_ok, Sem.run_pure]
  exact ⟨rfl, rfl⟩
theorem minor_num (m : Nat → Int) (c : Nat) (ci : Int) (hci : ci = c) (h : okM m) (hc : c < 3) (w : World) :
    Calls Try.prog 58 #[.agg (arrN 9 m), .int .i64 0, .int .i64 ci] w fun e w' => e = .returned (.int .i64 (minorS m 0 c)) ∧ Below w.heap.size w w' := by
  subst hci
  exact minor_any m 0 c w h (by omega) hc

set_option maxHeartbeats 4000000 in
theorem exact_any (m : Nat → Int) (w : World) (h : okM m) :
    Calls Try.prog 57 #[.agg (arrN 9 m)] w fun e w' => e = .returned (.int .i64 (exactS m)) ∧ Below w.heap.size w w' := by
  have hh := holdsN_new w 22 9 m
  have hb : Below w.heap.size w (w.alloc (.cells (arrN 9 m) 22)) := (Below.refl _ _).alloc (Nat.le_refl _) _
  have M0 := Lib.hid (minor_num m 0 0 rfl h (by omega))
  have M1 := Lib.hid (minor_num m 1 1 rfl h (by omega))
  have M2 := Lib.hid (minor_num m 2 2 rfl h (by omega))
  have hE : exactS m = m 0 * minorS m 0 0 + m 1 * minorS m 0 1 + m 2 * minorS m 0 2 := rfl
  have p0 := mul61 (h 0 (by omega)) (minorS_bound h 0 0)
  have p1 := mul61 (h 1 (by omega)) (minorS_bound h 0 1)
  have p2 := mul61 (h 2 (by omega)) (minorS_bound h 0 2)
  have HE := Lib.hid hE
  clear hE h
  have x0 := IntWalk.i64_in (m 0 * minorS m 0 0) (by omega)
  have x1 := IntWalk.i64_in (m 1 * minorS m 0 1) (by omega)
  have x2 := IntWalk.i64_in (m 2 * minorS m 0 2) (by omega)
  have x3 := IntWalk.i64_in (m 0 * minorS m 0 0 + m 1 * minorS m 0 1) (by omega)
  have x4 := IntWalk.i64_in (m 0 * minorS m 0 0 + m 1 * minorS m 0 1 + m 2 * minorS m 0 2) (by omega)
  clear p0 p1 p2
  generalize hB : w.heap.size = B at *
  have HB := Lib.hid hB
  go_enter Try.func57, Try.ntmps57
  go_upto_region 1 with fail
  clear hB
  generalize w.alloc (.cells (arrN 9 m) 22) = wc at *
  go_cut [2] (fun s2 wx => s2 = .int .i64 (exactS m) ∧ Below B w wx)
  case first =>
    refine wp_region_quiet (C := fun w' => Below wc.heap.size wc w' ∧ holdsN w' B 22 9 m) (by kernel_rfl) (by kernel_rfl) ⟨(Below.refl _ _).drew, hh⟩ ?_
    refine wpQuiet_val rfl (v := .pointer (some ⟨B, 0, none⟩)) (fun w hw => by unfold Oper.quietAt; go_simp) ?_
    (try simp only [Act.put, List.setIfInBounds_toArray, List.set_cons_zero, List.set_cons_succ])
    refine wpQuiet_val rfl (v := .int .i64 (m 0)) (fun w hw => by have hc := (hw.2.cell 0 (by omega)); unfold Oper.quietAt; go_simp) ?_
    (try simp only [Act.put, List.setIfInBounds_toArray, List.set_cons_zero, List.set_cons_succ])
    refine wpQuiet_val rfl (v := .agg (arrN 9 m)) (fun w hw => quietAt_load 22 _ rfl (run_loadAt_arr (P := Try.prog) 22 hw.2 Try.underlying22 hi9)) ?_
    refine wpQuiet_val rfl (v := .int .i64 (minorS m 0 0)) (fun w hw => by unfold Oper.quietAt; go_simp; exact (M0.out w).mono fun e w' h => ⟨h.1, ⟨hw.1.trans (h.2.mono hw.1.size), hw.2.kept h.2 hw.2.lt⟩⟩) ?_
    (try simp only [Act.put, List.setIfInBounds_toArray, List.set_cons_zero, List.set_cons_succ])
    refine wpQuiet_val rfl (v := .int .i64 (m 0 * minorS m 0 0)) (fun w hw => by unfold Oper.quietAt; go_simp) ?_
    (try simp only [Act.put, List.setIfInBounds_toArray, List.set_cons_zero, List.set_cons_succ])
    refine wpQuiet_val rfl (v := .pointer (some ⟨B, 1, none⟩)) (fun w hw => by unfold Oper.quietAt; go_simp) ?_
    (try simp only [Act.put, List.setIfInBounds_toArray, List.set_cons_zero, List.set_cons_succ])
    refine wpQuiet_val rfl (v := .int .i64 (m 1)) (fun w hw => by have hc := (hw.2.cell 1 (by omega)); unfold Oper.quietAt; go_simp) ?_
    (try simp only [Act.put, List.setIfInBounds_toArray, List.set_cons_zero, List.set_cons_succ])
    refine wpQuiet_val rfl (v := .agg (arrN 9 m)) (fun w hw => quietAt_load 22 _ rfl (run_loadAt_arr (P := Try.prog) 22 hw.2 Try.underlying22 hi9)) ?_
    refine wpQuiet_val rfl (v := .int .i64 (minorS m 0 1)) (fun w hw => by unfold Oper.quietAt; go_simp; exact (M1.out w).mono fun e w' h => ⟨h.1, ⟨hw.1.trans (h.2.mono hw.1.size), hw.2.kept h.2 hw.2.lt⟩⟩) ?_
    (try simp only [Act.put, List.setIfInBounds_toArray, List.set_cons_zero, List.set_cons_succ])
    refine wpQuiet_val rfl (v := .int .i64 (m 1 * minorS m 0 1)) (fun w hw => by unfold Oper.quietAt; go_simp) ?_
    (try simp only [Act.put, List.setIfInBounds_toArray, List.set_cons_zero, List.set_cons_succ])
    refine wpQuiet_val rfl (v := .int .i64 (m 0 * minorS m 0 0 + m 1 * minorS m 0 1)) (fun w hw => by unfold Oper.quietAt; go_simp) ?_
    (try simp only [Act.put, List.setIfInBounds_toArray, List.set_cons_zero, List.set_cons_succ])
    refine wpQuiet_val rfl (v := .pointer (some ⟨B, 2, none⟩)) (fun w hw => by unfold Oper.quietAt; go_simp) ?_
    (try simp only [Act.put, List.setIfInBounds_toArray, List.set_cons_zero, List.set_cons_succ])
    refine wpQuiet_val rfl (v := .int .i64 (m 2)) (fun w hw => by have hc := (hw.2.cell 2 (by omega)); unfold Oper.quietAt; go_simp) ?_
    (try simp only [Act.put, List.setIfInBounds_toArray, List.set_cons_zero, List.set_cons_succ])
    refine wpQuiet_val rfl (v := .agg (arrN 9 m)) (fun w hw => quietAt_load 22 _ rfl (run_loadAt_arr (P := Try.prog) 22 hw.2 Try.underlying22 hi9)) ?_
    refine wpQuiet_val rfl (v := .int .i64 (minorS m 0 2)) (fun w hw => by unfold Oper.quietAt; go_simp; exact (M2.out w).mono fun e w' h => ⟨h.1, ⟨hw.1.trans (h.2.mono hw.1.size), hw.2.kept h.2 hw.2.lt⟩⟩) ?_
    (try simp only [Act.put, List.setIfInBounds_toArray, List.set_cons_zero, List.set_cons_succ])
    refine wpQuiet_val rfl (v := .int .i64 (m 2 * minorS m 0 2)) (fun w hw => by unfold Oper.quietAt; go_simp) ?_
    (try simp only [Act.put, List.setIfInBounds_toArray, List.set_cons_zero, List.set_cons_succ])
    refine wpQuiet_val rfl (v := .int .i64 (m 0 * minorS m 0 0 + m 1 * minorS m 0 1 + m 2 * minorS m 0 2)) (fun w hw => by unfold Oper.quietAt; go_simp) ?_
    (try simp only [Act.put, List.setIfInBounds_toArray, List.set_cons_zero, List.set_cons_succ])
    refine wpQuiet_val rfl (v := .int .i64 (m 0 * minorS m 0 0 + m 1 * minorS m 0 1 + m 2 * minorS m 0 2)) (fun w hw => by unfold Oper.quietAt; go_simp) ?_
    (try simp only [Act.put, List.setIfInBounds_toArray, List.set_cons_zero, List.set_cons_succ])
    refine wpQuiet_nil ?_
    intro w' hw'
    rename_i J K' hJ hK
    refine hK _ _ ?_
    go_meet
    case rel => exact ⟨by rw [HE.out], hb.trans (hw'.1.mono (by rw [← HB.out]; exact hb.size))⟩
  case rest =>
    obtain ⟨rfl, hbe⟩ := hcut
    go_wp2
    go_ret
    exact ⟨rfl, hbe⟩

set_option maxHeartbeats 1000000 in
theorem det_any (m : Nat → Int) (w : World) :
    Calls Try.prog 26 #[.agg (arrN 9 m)] w fun e w' => e = .returned (.int .i64 (detS m)) ∧ Below w.heap.size w w' := by
  have hh := holdsN_new w 22 9 m
  have hb : Below w.heap.size w (w.alloc (.cells (arrN 9 m) 22)) := (Below.refl _ _).alloc (Nat.le_refl _) _
  by_cases h : okM m
  · have hD : Hid (detS m = divS (exactS m) 4294967296) := by show _ = _; unfold detS; rw [if_pos h]
    have hc := codeM_ok h
    have he := exactS_bound h
    have hd := fun w => div_any (exactS m) 4294967296 w (by unfold I64; omega) (by unfold I64; omega)
    have HX := Lib.hid (fun w => exact_any m w h)
    have HDV := Lib.hid hd
    clear hd h he
    go_enter Try.func26, Try.ntmps26
    go_wp2_with (refine wpList_load_arr rfl 22 (.tmp 1) rfl rfl hh Try.underlying22 hi9 ?_)
    refine (check_any m _).mono ?_; rintro e w1 ⟨rfl, b1⟩
    have g := hh.kept b1 (by simp)
    have gb := hb.trans (b1.mono hb.size)
    clear hh hb b1
    go_wp2_with (refine wpList_load_arr rfl 22 (.tmp 1) rfl rfl g Try.underlying22 hi9 ?_)
    refine (HX.out _).mono ?_; rintro e w2 ⟨rfl, b2⟩
    have gb2 := gb.trans (b2.mono gb.size)
    clear gb b2 g
    go_wp2_with fail
    refine (HDV.out _).mono ?_; rintro e w3 ⟨rfl, ⟨nd, rfl⟩⟩
    go_wp2
    go_ret
    exact ⟨ret_int hD.out.symm, below_drewN gb2 _⟩
  · have hD : Hid (detS m = 0) := by show _ = _; unfold detS; rw [if_neg h]
    have hc := codeM_bad h
    clear h
    go_enter Try.func26, Try.ntmps26
    go_wp2_with (refine wpList_load_arr rfl 22 (.tmp 1) rfl rfl hh Try.underlying22 hi9 ?_)
    refine (check_any m _).mono ?_; rintro e w1 ⟨rfl, b1⟩
    have gb := hb.trans (b1.mono hb.size)
    clear hh hb b1
    go_wp2
    go_ret
    exact ⟨ret_int hD.out.symm, gb⟩
end Go.Proofs.Yteehnbgkgdhgaaa.Mx
