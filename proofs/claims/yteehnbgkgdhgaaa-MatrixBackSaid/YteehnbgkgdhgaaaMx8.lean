/-
  Inverses: matrix.Inverse.
-/
import Derived.Test.YteehnbgkgdhgaaaMx7
import Derived.Laws.ResultCell
namespace Go.Proofs.Yteehnbgkgdhgaaa.Mx
open Go.RowKit Go.Proofs.Yteehnbgkgdhgaaa.NM Go.Proofs.Yteehnbgkgdhgaaa.Spec Go.Proofs.YteehnbgkgdhgaaaW.PrintWords Go.Proofs.YteehnbgkgdhgaaaW.PrintMore
set_option linter.unusedVariables false

def invEl (m : Nat → Int) (i j : Nat) : Int := ratioS (minorS m j i * 65536) (exactS m)
def invIn (m : Nat → Int) : Prop := ∀ i, i < 3 → ∀ j, j < 3 → -1048576 ≤ invEl m i j ∧ invEl m i j ≤ 1048576
instance (m : Nat → Int) : Decidable (invIn m) := by unfold invIn; exact Nat.decidableBallLT 3 _
/-- the error of an inverse: OK, out of range, singular -/
def invCode (m : Nat → Int) : Int := if okM m then (if exactS m = 0 then 17 else if invIn m then 0 else 17) else 2
def invV (m : Nat → Int) : Nat → Int := if invCode m = 0 then fun k => invEl m (k / 3) (k % 3) else fun _ => 0
theorem invV_zero {m : Nat → Int} (h : invCode m ≠ 0) : invV m = fun _ => 0 := by unfold invV; rw [if_neg h]

theorem results_arr_tmp {P : Program} {fn : Func} {p u : Tmp} {ty : TypeId} (h : fn.results = #[.cell p ty, .tmp u]) (tmps : Array Value) (w : World) {g t n : Nat} {m : Nat → Int} (hp : tmps.getD p undef = .pointer (some ⟨g, 0, none⟩)) {v : Value} (hv : tmps.getD u undef = v)
    (hh : holdsN w g t n m) {k : Nat} {e : TypeId} (hu : P.underlying ty = some (.array k e)) (hi : (P.info? ty).map (·.size) = some n) : (results fn tmps).run P w = .ok (.tuple #[.agg (arrN n m), v]) w := by
  subst hv
  rw [results_cell_tmp h, hp]
  have := run_loadVar_row (P := P) w g t ty (arrN n m) (0, 0) _ hh hu rfl (by rw [arrN_size]; exact hi)
  simp [asAddr, this, Result.andThen]

set_option maxHeartbeats 1000000 in
theorem inverse_bad (m : Nat → Int) (w : World) (h : ¬ okM m) :
    Calls Try.prog 22 #[.agg (arrN 9 m)] w fun e w' => e = .returned (.tuple #[.agg (arrN 9 (invV m)), .int .i64 (invCode m)]) ∧ Below w.heap.size w w' := by
  have hC : invCode m = 2 := by unfold invCode; rw [if_neg h]
  have HV := Lib.hid (invV_zero (m := m) (by rw [hC]; decide))
  have HC := Lib.hid hC
  clear hC
  have hc := codeM_bad h
  go_enter Try.func22, Try.ntmps22
  go_upto_region 1 with fail
  rw [zero9]
  have h0 : holdsN ((w.alloc (.cells (arrN 9 m) 22)).alloc (.cells (arrN 9 (fun _ => 0)) 22)) (w.heap.size) 22 9 m := (holdsN_new w 22 9 m).alloc (.cells (arrN 9 (fun _ => 0)) 22)
  have h1 : holdsN ((w.alloc (.cells (arrN 9 m) 22)).alloc (.cells (arrN 9 (fun _ => 0)) 22)) (w.heap.size + 1) 22 9 (fun _ => 0) := by
    have := holdsN_new (w.alloc (.cells (arrN 9 m) 22)) 22 9 (fun _ => 0)
    simpa using this
  have hb : Below w.heap.size w ((w.alloc (.cells (arrN 9 m) 22)).alloc (.cells (arrN 9 (fun _ => 0)) 22)) := ((Below.refl _ _).alloc (Nat.le_refl _) _).alloc (by simp) _
  have hs : w.heap.size + 1 < ((w.alloc (.cells (arrN 9 m) 22)).alloc (.cells (arrN 9 (fun _ => 0)) 22)).heap.size := by simp
  generalize ((w.alloc (.cells (arrN 9 m) 22)).alloc (.cells (arrN 9 (fun _ => 0)) 22)) = wc at *
  generalize hB : w.heap.size = B at *
  have HB := Lib.hid hB
  clear hB
  go_wp2_with (refine wpList_load_arr rfl 22 (.tmp 1) rfl rfl h0 Try.underlying22 hi9 ?_)
  refine (check_any m _).mono ?_; rintro e w1 ⟨rfl, b1⟩
  have g0 := h0.kept b1 (by omega)
  have g1 := h1.kept b1 (by omega)
  have gb := hb.trans (b1.mono (by omega))
  have gs := Nat.lt_of_lt_of_le hs b1.size
  clear h0 h1 hb hs b1
  have G1 := Lib.hid g1
  clear g1
  go_wp2_with (first
    | (refine wpList_build_as rfl 22 _ rfl (arrN 9 fun _ => 0) (by kernel_rfl) ?_)
    | (refine wpList_store_arr rfl 22 (.tmp 2) (.tmp 14) rfl rfl rfl G1.out (arrN_size _ _) hi9 ?_))
  refine bodyPost_ret (v := .tuple #[.agg (arrN 9 fun _ => 0), .int .i64 2]) (results_arr_tmp rfl _ _ rfl rfl (holdsN_row G1.out _) Try.underlying22 hi9) rfl ?_
  exact ⟨by rw [HV.out, HC.out], by rw [HB.out]; exact below_setRow gb (by omega) _⟩

set_option maxHeartbeats 1000000 in
theorem inverse_zero (m : Nat → Int) (w : World) (h : okM m) (hd : exactS m = 0) :
    Calls Try.prog 22 #[.agg (arrN 9 m)] w fun e w' => e = .returned (.tuple #[.agg (arrN 9 (invV m)), .int .i64 (invCode m)]) ∧ Below w.heap.size w w' := by
  have hC : invCode m = 17 := by unfold invCode; rw [if_pos h, if_pos hd]
  have HV := Lib.hid (invV_zero (m := m) (by rw [hC]; decide))
  have HC := Lib.hid hC
  clear hC
  have hc := codeM_ok h
  have hX := fun w => exact_any m w h
  rw [hd] at hX
  have HX := Lib.hid hX
  clear hX hd h
  go_enter Try.func22, Try.ntmps22
  go_upto_region 1 with fail
  rw [zero9]
  have h0 : holdsN ((w.alloc (.cells (arrN 9 m) 22)).alloc (.cells (arrN 9 (fun _ => 0)) 22)) (w.heap.size) 22 9 m := (holdsN_new w 22 9 m).alloc (.cells (arrN 9 (fun _ => 0)) 22)
  have h1 : holdsN ((w.alloc (.cells (arrN 9 m) 22)).alloc (.cells (arrN 9 (fun _ => 0)) 22)) (w.heap.size + 1) 22 9 (fun _ => 0) := by
    have := holdsN_new (w.alloc (.cells (arrN 9 m) 22)) 22 9 (fun _ => 0)
    simpa using this
  have hb : Below w.heap.size w ((w.alloc (.cells (arrN 9 m) 22)).alloc (.cells (arrN 9 (fun _ => 0)) 22)) := ((Below.refl _ _).alloc (Nat.le_refl _) _).alloc (by simp) _
  have hs : w.heap.size + 1 < ((w.alloc (.cells (arrN 9 m) 22)).alloc (.cells (arrN 9 (fun _ => 0)) 22)).heap.size := by simp
  generalize ((w.alloc (.cells (arrN 9 m) 22)).alloc (.cells (arrN 9 (fun _ => 0)) 22)) = wc at *
  generalize hB : w.heap.size = B at *
  have HB := Lib.hid hB
  clear hB
  go_wp2_with (refine wpList_load_arr rfl 22 (.tmp 1) rfl rfl h0 Try.underlying22 hi9 ?_)
  refine (check_any m _).mono ?_; rintro e w1 ⟨rfl, b1⟩
  have g0 := h0.kept b1 (by omega)
  have g1 := h1.kept b1 (by omega)
  have gb := hb.trans (b1.mono (by omega))
  have gs := Nat.lt_of_lt_of_le hs b1.size
  clear h0 h1 hb hs b1
  go_wp2_with (refine wpList_load_arr rfl 22 (.tmp 1) rfl rfl g0 Try.underlying22 hi9 ?_)
  refine (HX.out _).mono ?_; rintro e w2 ⟨rfl, b2⟩
  have G1 := Lib.hid (g1.kept b2 (by omega))
  have GB := gb.trans (b2.mono (by omega))
  clear g0 g1 gb gs b2
  go_wp2_with (first
    | (refine wpList_build_as rfl 22 _ rfl (arrN 9 fun _ => 0) (by kernel_rfl) ?_)
    | (refine wpList_store_arr rfl 22 (.tmp 2) (.tmp 20) rfl rfl rfl G1.out (arrN_size _ _) hi9 ?_))
  refine bodyPost_ret (v := .tuple #[.agg (arrN 9 fun _ => 0), .int .i64 17]) (results_arr_tmp rfl _ _ rfl rfl (holdsN_row G1.out _) Try.underlying22 hi9) rfl ?_
  exact ⟨by rw [HV.out, HC.out], by rw [HB.out]; exact below_setRow GB (by omega) _⟩

set_option maxHeartbeats 4000000 in
theorem inverse_loop (m : Nat → Int) (w : World) (h : okM m) (hd : exactS m ≠ 0) :
    Calls Try.prog 22 #[.agg (arrN 9 m)] w fun e w' => e = .returned (.tuple #[.agg (arrN 9 (invV m)), .int .i64 (invCode m)]) ∧ Below w.heap.size w w' := by
  have hc := codeM_ok h
  have HX := Lib.hid (fun w => exact_any m w h)
  have hbd := exactS_bound h
  have HMB := Lib.hid (minorS_bound h)
  have HMA := Lib.hid (fun r c w => minor_any m r c w h)
  have HOUT : Hid (∀ i j, i < 3 → j < 3 → ¬ (-1048576 ≤ invEl m i j ∧ invEl m i j ≤ 1048576) → invCode m = 17) := by
    intro i j hi hj hn
    unfold invCode
    rw [if_pos h, if_neg hd, if_neg (fun hall => hn (hall i hi j hj))]
  have HIN : Hid (invIn m → invCode m = 0) := by
    intro hall
    unfold invCode
    rw [if_pos h, if_neg hd, if_pos hall]
  have hd0 : (exactS m == 0) = false := by simpa using hd
  have HE : Hid (∀ i j, invEl m i j = ratioS (minorS m j i * 65536) (exactS m)) := fun _ _ => rfl
  clear h hd
  generalize exactS m = D at *
  go_enter Try.func22, Try.ntmps22
  go_upto_region 1 with fail
  rw [zero9]
  have h0 : holdsN ((w.alloc (.cells (arrN 9 m) 22)).alloc (.cells (arrN 9 (fun _ => 0)) 22)) (w.heap.size) 22 9 m := (holdsN_new w 22 9 m).alloc (.cells (arrN 9 (fun _ => 0)) 22)
  have h1 : holdsN ((w.alloc (.cells (arrN 9 m) 22)).alloc (.cells (arrN 9 (fun _ => 0)) 22)) (w.heap.size + 1) 22 9 (fun _ => 0) := by
    have := holdsN_new (w.alloc (.cells (arrN 9 m) 22)) 22 9 (fun _ => 0)
    simpa using this
  have hb : Below w.heap.size w ((w.alloc (.cells (arrN 9 m) 22)).alloc (.cells (arrN 9 (fun _ => 0)) 22)) := ((Below.refl _ _).alloc (Nat.le_refl _) _).alloc (by simp) _
  have hs : w.heap.size + 1 < ((w.alloc (.cells (arrN 9 m) 22)).alloc (.cells (arrN 9 (fun _ => 0)) 22)).heap.size := by simp
  generalize ((w.alloc (.cells (arrN 9 m) 22)).alloc (.cells (arrN 9 (fun _ => 0)) 22)) = wc at *
  generalize hB : w.heap.size = B at *
  have HB := Lib.hid hB
  clear hB
  go_wp2_with (refine wpList_load_arr rfl 22 (.tmp 1) rfl rfl h0 Try.underlying22 hi9 ?_)
  refine (check_any m _).mono ?_; rintro e w1 ⟨rfl, b1⟩
  have g0 := h0.kept b1 (by omega)
  have g1 := h1.kept b1 (by omega)
  have gb := hb.trans (b1.mono (by omega))
  have gs := Nat.lt_of_lt_of_le hs b1.size
  clear h0 h1 hb hs b1
  go_wp2_with (refine wpList_load_arr rfl 22 (.tmp 1) rfl rfl g0 Try.underlying22 hi9 ?_)
  refine (HX.out _).mono ?_; rintro e w2 ⟨rfl, b2⟩
  have h0 := g0.kept b2 (by omega)
  have h1 := g1.kept b2 (by omega)
  have hb := gb.trans (b2.mono (by omega))
  have hs := Nat.lt_of_lt_of_le gs b2.size
  clear g0 g1 gb gs b2 hc
  go_upto_region 8 with fail
  rw [zero9]
  have k0 := h0.alloc (.cells (arrN 9 (fun _ => 0)) 22)
  have k1 := h1.alloc (.cells (arrN 9 (fun _ => 0)) 22)
  have k2 := holdsN_new w2 22 9 (fun _ => 0)
  have kb := hb.alloc (by omega) (.cells (arrN 9 (fun _ => 0)) 22)
  have ks : w2.heap.size < (w2.alloc (.cells (arrN 9 (fun _ => 0)) 22)).heap.size := by simp
  generalize w2.alloc (.cells (arrN 9 (fun _ => 0)) 22) = wd at *
  generalize w2.heap.size = g at *
  clear h0 h1 hb
  go_wp2_with fail
  go_loopw [3, 21] (fun _ v21 wr => ∃ (i : Nat) (p : Nat → Int), i ≤ 3 ∧ v21 = .int .i64 i ∧ Hid (Done i 0 p posR (invEl m)) ∧ Hid (∀ a b, a < 3 → b < 3 → (a < i ∨ (a = i ∧ b < 0)) → -1048576 ≤ invEl m a b ∧ invEl m a b ≤ 1048576) ∧ holdsN wr B 22 9 m ∧ holdsN wr (B + 1) 22 9 (fun _ => 0) ∧ holdsN wr g 22 9 p ∧ Below B w wr ∧ g < wr.heap.size) (fun _ v _ => 3 - (intOf v).toNat)
  case atStart => exact ⟨0, fun _ => 0, by omega, rfl, Done.zero _ _ _, fun a b _ _ h => absurd h (by omega), k0, k1, k2, kb, ks⟩
  case round =>
    obtain ⟨i, p, hi, rfl, hdn, hin, k0, k1, k2, kb, ks⟩ := hrel
    by_cases hi3 : i < 3
    · go_wp2_with fail
      obtain ⟨wo, hwo⟩ : ∃ wo : World, wo = wr := ⟨_, rfl⟩
      subst hwo
      rw [show decide ((i : Int) < 3) = true from decide_eq_true (by omega)]
      go_loopw [3, 24] (fun _ v24 wr => ∃ (j : Nat) (p : Nat → Int), j ≤ 3 ∧ v24 = .int .i64 j ∧ Hid (Done i j p posR (invEl m)) ∧ Hid (∀ a b, a < 3 → b < 3 → (a < i ∨ (a = i ∧ b < j)) → -1048576 ≤ invEl m a b ∧ invEl m a b ≤ 1048576) ∧ holdsN wr B 22 9 m ∧ holdsN wr (B + 1) 22 9 (fun _ => 0) ∧ holdsN wr g 22 9 p ∧ Below B w wr ∧ g < wr.heap.size) (fun _ v _ => 3 - (intOf v).toNat)
      case atStart => exact ⟨0, p, by omega, rfl, hdn, hin, k0, k1, k2, kb, ks⟩
      case round =>
        obtain ⟨j, p, hj, rfl, hdn, hin, k0, k1, k2, kb, ks⟩ := hrel
        by_cases hj3 : j < 3
        · have hmb := HMB.out j i
          have hma := fun w => HMA.out j i w hj3 hi3
          have hel := HE.out i j
          have hrt := fun w => ratio_any (minorS m j i * 65536) D w (by unfold I64; omega) (by unfold I64; omega)
          rw [← hel] at hrt
          have HDN' : Hid (Done i (j + 1) (upd p (posR i j) (invEl m i j)) posR (invEl m)) := hdn.out.step hi3 hj3 (by unfold posR; omega)
          have hout := HOUT.out i j hi3 hj3
          generalize minorS m j i = M at *
          have HMA1 := Lib.hid hma
          have HRT := Lib.hid hrt
          clear hma hrt hel
          have hin' : -1048576 ≤ invEl m i j → invEl m i j ≤ 1048576 → Hid (∀ a b, a < 3 → b < 3 → (a < i ∨ (a = i ∧ b < j + 1)) → -1048576 ≤ invEl m a b ∧ invEl m a b ≤ 1048576) := by
            intro h1 h2 a b ha hb' hab
            by_cases he : a = i ∧ b = j
            · obtain ⟨rfl, rfl⟩ := he; exact ⟨h1, h2⟩
            · exact hin.out a b ha hb' (by omega)
          generalize invEl m i j = x at *
          obtain ⟨hmb0, hmb1⟩ := hmb
          go_wp2_with (refine wpList_load_arr rfl 22 (.tmp 1) rfl rfl k0 Try.underlying22 hi9 ?_)
          refine (HMA1.out _).mono ?_; rintro e w3 ⟨rfl, b3⟩
          have m0 := k0.kept b3 (by omega)
          have m1 := k1.kept b3 (by omega)
          have m2 := k2.kept b3 (by omega)
          have mb := kb.trans (b3.mono (by omega))
          have ms := Nat.lt_of_lt_of_le ks b3.size
          clear b3
          go_wp2_with fail
          refine (HRT.out _).mono ?_; rintro e w4 ⟨rfl, ⟨nd, rfl⟩⟩
          by_cases hx : -1048576 ≤ x ∧ x ≤ 1048576
          · obtain ⟨hx0, hx1⟩ := hx
            have HIN' := hin' hx0 hx1
            clear hin' hout
            have c2 := m2.cell (3 * i + j) (by omega)
            have c3 := m2.free (3 * i + j)
            go_wp2
            go_roundw
            case rel => exact ⟨j + 1, _, by omega, by go_num, HDN', HIN', (m0.drewN _).setOther (by omega) _, (m1.drewN _).setOther (by omega) _, (m2.drewN _).set (3 * i + j) x, (below_drewN mb _).setCell (by show B ≤ g; omega) _, by simpa [World.setCell] using ms⟩
            case measure => simp [intOf]; omega
          · have HC := Lib.hid (hout hx)
            have HV := Lib.hid (invV_zero (m := m) (by rw [HC.out]; decide))
            have G1 := Lib.hid (m1.drewN nd)
            have GB := below_drewN mb nd
            clear hout hin' m1
            rcases (show x < -1048576 ∨ 1048576 < x by omega) with hx1 | hx1
            · clear hx
              go_wp2_with (first
                | (refine wpList_build_as rfl 22 _ rfl (arrN 9 fun _ => 0) (by kernel_rfl) ?_)
                | (refine wpList_store_arr rfl 22 (.tmp 2) (.tmp 40) rfl rfl rfl G1.out (arrN_size _ _) hi9 ?_))
              refine bodyPost_ret (v := .tuple #[.agg (arrN 9 fun _ => 0), .int .i64 17]) (results_arr_tmp rfl _ _ rfl rfl (holdsN_row G1.out _) Try.underlying22 hi9) rfl ?_
              exact ⟨by rw [HV.out, HC.out], by rw [HB.out]; exact below_setRow GB (by omega) _⟩
            · clear hx
              go_wp2_with (first
                | (refine wpList_build_as rfl 22 _ rfl (arrN 9 fun _ => 0) (by kernel_rfl) ?_)
                | (refine wpList_store_arr rfl 22 (.tmp 2) (.tmp 40) rfl rfl rfl G1.out (arrN_size _ _) hi9 ?_))
              refine bodyPost_ret (v := .tuple #[.agg (arrN 9 fun _ => 0), .int .i64 17]) (results_arr_tmp rfl _ _ rfl rfl (holdsN_row G1.out _) Try.underlying22 hi9) rfl ?_
              exact ⟨by rw [HV.out, HC.out], by rw [HB.out]; exact below_setRow GB (by omega) _⟩
        · obtain rfl : j = 3 := by omega
          have hd' := Lib.hid hdn.out.next
          have HIN' : Hid (∀ a b, a < 3 → b < 3 → (a < i + 1 ∨ (a = i + 1 ∧ b < 0)) → -1048576 ≤ invEl m a b ∧ invEl m a b ≤ 1048576) := fun a b ha hb' hab => hin.out a b ha hb' (by omega)
          go_wp2
          go_roundw
          case rel => exact ⟨i + 1, p, by omega, by go_num, hd', HIN', k0, k1, k2, kb, ks⟩
          case measure => simp [intOf]; omega
    · obtain rfl : i = 3 := by omega
      have HC : Hid (invCode m = 0) := HIN.out (fun a ha b hb' => hin.out a b ha hb' (by omega))
      have hp : Hid (arrN 9 p = arrN 9 (invV m)) := by
        show _ = _
        unfold invV
        rw [HC.out, if_pos rfl]
        refine arrN_congr fun k hk => ?_
        have := hdn.out (k / 3) (k % 3) (by omega) (by omega) (by omega)
        rw [show posR (k / 3) (k % 3) = k by unfold posR; omega] at this
        exact this
      have G1 := Lib.hid k1
      clear k1
      go_wp2_with (first
        | (refine wpList_load_arr rfl 22 (.tmp 6) rfl rfl k2 Try.underlying22 hi9 ?_)
        | (refine wpList_store_arr rfl 22 (.tmp 2) (.tmp 49) rfl rfl rfl G1.out (arrN_size _ _) hi9 ?_))
      refine bodyPost_ret (v := .tuple #[.agg (arrN 9 p), .int .i64 0]) (results_arr_tmp rfl _ _ rfl rfl (holdsN_row G1.out p) Try.underlying22 hi9) rfl ?_
      exact ⟨by rw [HC.out, hp.out], by rw [HB.out]; exact below_setRow kb (by omega) _⟩
theorem inverse_any (m : Nat → Int) (w : World) :
    Calls Try.prog 22 #[.agg (arrN 9 m)] w fun e w' => e = .returned (.tuple #[.agg (arrN 9 (invV m)), .int .i64 (invCode m)]) ∧ Below w.heap.size w w' := by
  by_cases h : okM m
  · by_cases hd : exactS m = 0
    · exact inverse_zero m w h hd
    · exact inverse_loop m w h hd
  · exact inverse_bad m w h
end Go.Proofs.Yteehnbgkgdhgaaa.Mx
