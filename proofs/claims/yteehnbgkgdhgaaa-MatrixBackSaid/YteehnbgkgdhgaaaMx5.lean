/-
  Images of vectors: matrix.Apply and the reference's.
-/
import Derived.Test.YteehnbgkgdhgaaaMx4
namespace Go.Proofs.Yteehnbgkgdhgaaa.Mx
open Go.RowKit Go.Proofs.Yteehnbgkgdhgaaa.NM Go.Proofs.Yteehnbgkgdhgaaa.Spec Go.Proofs.YteehnbgkgdhgaaaW.PrintWords Go.Proofs.YteehnbgkgdhgaaaW.PrintMore
attribute [local go_sem] max2_int min2_int
set_option linter.unusedVariables false

/-- the vector, its elements within the limits -/
def clampV (v : Nat → Int) : Nat → Int := fun k => clampS (v k) (-1073741824) 1073741824
def imageM (m c : Nat → Int) : Nat → Int := fun i => divS (m (3 * i) * c 0 + m (3 * i + 1) * c 1 + m (3 * i + 2) * c 2) 65536
def applyM (m v : Nat → Int) : Nat → Int := if okM m then imageM m (clampV v) else fun _ => 0
theorem clampV_range (v : Nat → Int) (k : Nat) : -1073741824 ≤ clampV v k ∧ clampV v k ≤ 1073741824 := clampS_range _ (by omega)
theorem mul50 {x y : Int} (hx : -1048576 ≤ x ∧ x ≤ 1048576) (hy : -1073741824 ≤ y ∧ y ≤ 1073741824) : -1125899906842624 ≤ x * y ∧ x * y ≤ 1125899906842624 := by
  have h1 : (x * y).natAbs = x.natAbs * y.natAbs := Int.natAbs_mul x y
  have h2 : x.natAbs * y.natAbs ≤ 1048576 * 1073741824 := Nat.mul_le_mul (by omega) (by omega)
  omega
def Upto (k : Nat) (p f : Nat → Int) : Prop := ∀ j, j < k → p j = f j
theorem Upto.step {k : Nat} {p f : Nat → Int} (h : Upto k p f) : Upto (k + 1) (upd p k (f k)) f := by
  intro j hj
  unfold upd
  by_cases he : j = k
  · rw [if_pos he, he]
  · rw [if_neg he]; exact h j (by omega)
theorem Upto.arr {n : Nat} {p f : Nat → Int} (h : Upto n p f) : arrN n p = arrN n f := arrN_congr h

def dotV (m c : Nat → Int) (i : Nat) : Nat → Int
  | 0 => 0
  | k + 1 => dotV m c i k + m (3 * i + k) * c k
theorem dotV_bound {m v : Nat → Int} (h : okM m) (i : Nat) (hi : i < 3) : ∀ k : Nat, k ≤ 3 → -(1125899906842624 * (k : Int)) ≤ dotV m (clampV v) i k ∧ dotV m (clampV v) i k ≤ 1125899906842624 * (k : Int)
  | 0, _ => by simp [dotV]
  | k + 1, hk => by
    have ih := dotV_bound (v := v) h i hi k (by omega)
    have := mul50 (h (3 * i + k) (by omega)) (clampV_range v k)
    simp only [dotV]
    omega

set_option maxHeartbeats 2000000 in
theorem apply_bad (m v : Nat → Int) (w : World) (ha : ¬ okM m) :
    Calls Try.prog 19 #[.agg (arrN 9 m), .agg (arrN 3 v)] w fun e w' => e = .returned (.agg (arrN 3 (applyM m v))) ∧ Below w.heap.size w w' := by
  have HM : Hid (applyM m v = fun _ => 0) := by show _ = _; unfold applyM; rw [if_neg ha]
  have hc := codeM_bad ha
  go_enter Try.func19, Try.ntmps19
  go_upto_region 2 with fail
  rw [zero3]
  have h0 : holdsN ((((w.alloc (.cells (arrN 9 m) 22)).alloc (.cells (arrN 3 v) 23)).alloc (.cells (arrN 3 (fun _ => 0)) 23)).alloc (.cells (arrN 3 (fun _ => 0)) 23)) (w.heap.size) 22 9 m := (((holdsN_new w 22 9 m).alloc (.cells (arrN 3 v) 23)).alloc (.cells (arrN 3 (fun _ => 0)) 23)).alloc (.cells (arrN 3 (fun _ => 0)) 23)
  have h1 : holdsN ((((w.alloc (.cells (arrN 9 m) 22)).alloc (.cells (arrN 3 v) 23)).alloc (.cells (arrN 3 (fun _ => 0)) 23)).alloc (.cells (arrN 3 (fun _ => 0)) 23)) (w.heap.size + 1) 23 3 v := by
    have := ((holdsN_new (w.alloc (.cells (arrN 9 m) 22)) 23 3 v).alloc (.cells (arrN 3 (fun _ => 0)) 23)).alloc (.cells (arrN 3 (fun _ => 0)) 23)
    simpa using this
  have h2 : holdsN ((((w.alloc (.cells (arrN 9 m) 22)).alloc (.cells (arrN 3 v) 23)).alloc (.cells (arrN 3 (fun _ => 0)) 23)).alloc (.cells (arrN 3 (fun _ => 0)) 23)) (w.heap.size + 1 + 1) 23 3 (fun _ => 0) := by
    have := (holdsN_new ((w.alloc (.cells (arrN 9 m) 22)).alloc (.cells (arrN 3 v) 23)) 23 3 (fun _ => 0)).alloc (.cells (arrN 3 (fun _ => 0)) 23)
    simpa using this
  have h3 : holdsN ((((w.alloc (.cells (arrN 9 m) 22)).alloc (.cells (arrN 3 v) 23)).alloc (.cells (arrN 3 (fun _ => 0)) 23)).alloc (.cells (arrN 3 (fun _ => 0)) 23)) (w.heap.size + 1 + 1 + 1) 23 3 (fun _ => 0) := by
    have := holdsN_new (((w.alloc (.cells (arrN 9 m) 22)).alloc (.cells (arrN 3 v) 23)).alloc (.cells (arrN 3 (fun _ => 0)) 23)) 23 3 (fun _ => 0)
    simpa using this
  have hb : Below w.heap.size w ((((w.alloc (.cells (arrN 9 m) 22)).alloc (.cells (arrN 3 v) 23)).alloc (.cells (arrN 3 (fun _ => 0)) 23)).alloc (.cells (arrN 3 (fun _ => 0)) 23)) := ((((Below.refl _ _).alloc (Nat.le_refl _) _).alloc (by simp) _).alloc (by simp; omega) _).alloc (by simp; omega) _
  have hs : w.heap.size + 1 + 1 + 1 < ((((w.alloc (.cells (arrN 9 m) 22)).alloc (.cells (arrN 3 v) 23)).alloc (.cells (arrN 3 (fun _ => 0)) 23)).alloc (.cells (arrN 3 (fun _ => 0)) 23)).heap.size := by simp
  generalize ((((w.alloc (.cells (arrN 9 m) 22)).alloc (.cells (arrN 3 v) 23)).alloc (.cells (arrN 3 (fun _ => 0)) 23)).alloc (.cells (arrN 3 (fun _ => 0)) 23)) = wc at *
  generalize hB : w.heap.size = B at *
  have HB := Lib.hid hB
  clear hB
  go_wp2_with (refine wpList_load_arr rfl 22 (.tmp 2) rfl rfl h0 Try.underlying22 hi9 ?_)
  refine (check_any m _).mono ?_; rintro e w1 ⟨rfl, b1⟩
  have G2 := Lib.hid (h2.kept b1 (by omega))
  have G3 := Lib.hid (h3.kept b1 (by omega))
  have GB := hb.trans (b1.mono (by omega))
  clear h0 h1 h2 h3 hb hs b1
  go_wp2_with (first
    | (refine wpList_load_arr rfl 23 (.tmp 5) rfl rfl G3.out Try.underlying23 hi3 ?_)
    | (refine wpList_store_arr rfl 23 (.tmp 4) (.tmp 11) rfl rfl rfl G2.out (arrN_size _ _) hi3 ?_))
  refine bodyPost_ret (v := .agg (arrN 3 fun _ => 0)) (results_cell_row rfl _ _ (B + 1 + 1) 23 _ _ _ rfl (holdsN_row G2.out _) Try.underlying23 rfl (by rw [arrN_size]; exact hi3)) rfl ?_
  exact ⟨by rw [HM.out], by rw [HB.out]; exact below_setRow GB (by omega) _⟩

set_option maxHeartbeats 2000000 in
theorem apply_ok (m v : Nat → Int) (w : World) (ha : okM m) :
    Calls Try.prog 19 #[.agg (arrN 9 m), .agg (arrN 3 v)] w fun e w' => e = .returned (.agg (arrN 3 (applyM m v))) ∧ Below w.heap.size w w' := by
  have HM : Hid (applyM m v = imageM m (clampV v)) := by show _ = _; unfold applyM; rw [if_pos ha]
  have hc := codeM_ok ha
  have HA := Lib.hid ha
  clear ha
  go_enter Try.func19, Try.ntmps19
  go_upto_region 2 with fail
  rw [zero3]
  have h0 : holdsN ((((w.alloc (.cells (arrN 9 m) 22)).alloc (.cells (arrN 3 v) 23)).alloc (.cells (arrN 3 (fun _ => 0)) 23)).alloc (.cells (arrN 3 (fun _ => 0)) 23)) (w.heap.size) 22 9 m := (((holdsN_new w 22 9 m).alloc (.cells (arrN 3 v) 23)).alloc (.cells (arrN 3 (fun _ => 0)) 23)).alloc (.cells (arrN 3 (fun _ => 0)) 23)
  have h1 : holdsN ((((w.alloc (.cells (arrN 9 m) 22)).alloc (.cells (arrN 3 v) 23)).alloc (.cells (arrN 3 (fun _ => 0)) 23)).alloc (.cells (arrN 3 (fun _ => 0)) 23)) (w.heap.size + 1) 23 3 v := by
    have := ((holdsN_new (w.alloc (.cells (arrN 9 m) 22)) 23 3 v).alloc (.cells (arrN 3 (fun _ => 0)) 23)).alloc (.cells (arrN 3 (fun _ => 0)) 23)
    simpa using this
  have h2 : holdsN ((((w.alloc (.cells (arrN 9 m) 22)).alloc (.cells (arrN 3 v) 23)).alloc (.cells (arrN 3 (fun _ => 0)) 23)).alloc (.cells (arrN 3 (fun _ => 0)) 23)) (w.heap.size + 1 + 1) 23 3 (fun _ => 0) := by
    have := (holdsN_new ((w.alloc (.cells (arrN 9 m) 22)).alloc (.cells (arrN 3 v) 23)) 23 3 (fun _ => 0)).alloc (.cells (arrN 3 (fun _ => 0)) 23)
    simpa using this
  have h3 : holdsN ((((w.alloc (.cells (arrN 9 m) 22)).alloc (.cells (arrN 3 v) 23)).alloc (.cells (arrN 3 (fun _ => 0)) 23)).alloc (.cells (arrN 3 (fun _ => 0)) 23)) (w.heap.size + 1 + 1 + 1) 23 3 (fun _ => 0) := by
    have := holdsN_new (((w.alloc (.cells (arrN 9 m) 22)).alloc (.cells (arrN 3 v) 23)).alloc (.cells (arrN 3 (fun _ => 0)) 23)) 23 3 (fun _ => 0)
    simpa using this
  have hb : Below w.heap.size w ((((w.alloc (.cells (arrN 9 m) 22)).alloc (.cells (arrN 3 v) 23)).alloc (.cells (arrN 3 (fun _ => 0)) 23)).alloc (.cells (arrN 3 (fun _ => 0)) 23)) := ((((Below.refl _ _).alloc (Nat.le_refl _) _).alloc (by simp) _).alloc (by simp; omega) _).alloc (by simp; omega) _
  have hs : w.heap.size + 1 + 1 + 1 < ((((w.alloc (.cells (arrN 9 m) 22)).alloc (.cells (arrN 3 v) 23)).alloc (.cells (arrN 3 (fun _ => 0)) 23)).alloc (.cells (arrN 3 (fun _ => 0)) 23)).heap.size := by simp
  generalize ((((w.alloc (.cells (arrN 9 m) 22)).alloc (.cells (arrN 3 v) 23)).alloc (.cells (arrN 3 (fun _ => 0)) 23)).alloc (.cells (arrN 3 (fun _ => 0)) 23)) = wc at *
  generalize hB : w.heap.size = B at *
  have HB := Lib.hid hB
  clear hB
  go_wp2_with (refine wpList_load_arr rfl 22 (.tmp 2) rfl rfl h0 Try.underlying22 hi9 ?_)
  refine (check_any m _).mono ?_; rintro e w1 ⟨rfl, b1⟩
  have g0 := h0.kept b1 (by omega)
  have g1 := h1.kept b1 (by omega)
  have g2 := h2.kept b1 (by omega)
  have g3 := h3.kept b1 (by omega)
  have gb := hb.trans (b1.mono (by omega))
  have gs := Nat.lt_of_lt_of_le hs b1.size
  clear h0 h1 h2 h3 hb hs b1
  go_wp2_with fail
  clear hc
  go_loopw [12] (fun v12 wr => ∃ (k : Nat) (q p : Nat → Int), k ≤ 3 ∧ v12 = .int .i64 k ∧ Hid (Upto k q (clampV v)) ∧ Hid (∀ j, k ≤ j → q j = v j) ∧ holdsN wr B 22 9 m ∧ holdsN wr (B + 1) 23 3 q ∧ holdsN wr (B + 1 + 1) 23 3 (fun _ => 0) ∧ holdsN wr (B + 1 + 1 + 1) 23 3 p ∧ Below B w wr ∧ B + 1 + 1 + 1 < wr.heap.size) (fun v _ => 3 - (intOf v).toNat)
  case atStart => exact ⟨0, v, fun _ => 0, by omega, rfl, fun j hj => absurd hj (by omega), fun j _ => rfl, g0, g1, g2, g3, gb, gs⟩
  case round =>
    obtain ⟨k, q, p, hk, rfl, hq1, hq2, k0, k1, k2, k3, kb, ks⟩ := hrel
    clear g0 g1 g2 g3 gb gs
    by_cases hk3 : k < 3
    · have c1 := k1.cell k (by omega)
      rw [hq2.out k (by omega)] at c1
      have hcl := fun w => clamp_any (v k) (-1073741824) 1073741824 w
      have hq1' : Hid (Upto (k + 1) (upd q k (clampV v k)) (clampV v)) := hq1.out.step
      have hq2' : Hid (∀ j, k + 1 ≤ j → upd q k (clampV v k) j = v j) := by intro j hj; unfold upd; rw [if_neg (by omega)]; exact hq2.out j (by omega)
      have hcv : clampV v k = clampS (v k) (-1073741824) 1073741824 := rfl
      rw [hcv] at hq1' hq2'
      clear hcv
      generalize clampS (v k) (-1073741824) 1073741824 = c at *
      generalize v k = x at *
      have HCL := Lib.hid hcl
      clear hcl
      go_wp2_with fail
      refine (HCL.out _).mono ?_; rintro e w2 ⟨rfl, b2⟩
      have m0 := k0.kept b2 (by omega)
      have m1 := k1.kept b2 (by omega)
      have m2 := k2.kept b2 (by omega)
      have m3 := k3.kept b2 (by omega)
      have mb := kb.trans (b2.mono (by omega))
      have ms := Nat.lt_of_lt_of_le ks b2.size
      have c2 := m1.cell k (by omega)
      have c3 := m1.free k
      clear b2
      go_wp2
      go_roundw
      case rel => exact ⟨k + 1, upd q k c, p, by omega, by go_num, hq1', hq2', m0.setOther (by omega) _, m1.set k c, m2.setOther (by omega) _, m3.setOther (by omega) _, mb.setCell (by show B ≤ B + 1; omega) _, by simpa [World.setCell] using ms⟩
      case measure => simp [intOf]; omega
    · obtain rfl : k = 3 := by omega
      clear hq2
      have hqe := hq1.out.arr
      have k1' : holdsN wr (B + 1) 23 3 (clampV v) := by unfold holdsN at *; rw [k1, hqe]
      clear k1 hqe hq1
      obtain ⟨wo, hwo⟩ : ∃ wo : World, wo = wr := ⟨_, rfl⟩
      subst hwo
      go_wp2_with fail
      rw [show ((3 : Nat) : Int) = (3 : Int) from rfl]
      go_loopw [22] (fun v22 wr => ∃ (i : Nat) (p : Nat → Int), i ≤ 3 ∧ v22 = .int .i64 i ∧ Hid (Upto i p (imageM m (clampV v))) ∧ holdsN wr B 22 9 m ∧ holdsN wr (B + 1) 23 3 (clampV v) ∧ holdsN wr (B + 1 + 1) 23 3 (fun _ => 0) ∧ holdsN wr (B + 1 + 1 + 1) 23 3 p ∧ Below B w wr ∧ B + 1 + 1 + 1 < wr.heap.size) (fun v _ => 3 - (intOf v).toNat)
      case atStart => exact ⟨0, p, by omega, rfl, fun j hj => absurd hj (by omega), k0, k1', k2, k3, kb, ks⟩
      case round =>
        obtain ⟨i, p, hi, rfl, hd, k0, k1, k2, k3, kb, ks⟩ := hrel
        by_cases hi3 : i < 3
        · have c0 := k0.cell (3 * i) (by omega)
          have c1 := k0.cell (3 * i + 1) (by omega)
          have c2 := k0.cell (3 * i + 2) (by omega)
          have d0 := k1.cell 0 (by omega)
          have d1 := k1.cell 1 (by omega)
          have d2 := k1.cell 2 (by omega)
          have t0 := k3.cell i (by omega)
          have t1 := k3.free i
          have hd' : Hid (Upto (i + 1) (upd p i (imageM m (clampV v) i)) (imageM m (clampV v))) := hd.out.step
          have p0 := mul50 (HA.out (3 * i) (by omega)) (clampV_range v 0)
          have p1 := mul50 (HA.out (3 * i + 1) (by omega)) (clampV_range v 1)
          have p2 := mul50 (HA.out (3 * i + 2) (by omega)) (clampV_range v 2)
          have hS : imageM m (clampV v) i = divS (m (3 * i) * clampV v 0 + m (3 * i + 1) * clampV v 1 + m (3 * i + 2) * clampV v 2) 65536 := rfl
          rw [hS] at hd'
          clear hS
          generalize m (3 * i) = x0 at *
          generalize m (3 * i + 1) = x1 at *
          generalize m (3 * i + 2) = x2 at *
          generalize clampV v 0 = y0 at *
          generalize clampV v 1 = y1 at *
          generalize clampV v 2 = y2 at *
          have hdv := fun w => div_any (x0 * y0 + x1 * y1 + x2 * y2) 65536 w (by unfold I64; omega) (by unfold I64; omega)
          have HDV := Lib.hid hdv
          clear hdv
          generalize divS (x0 * y0 + x1 * y1 + x2 * y2) 65536 = dv at *
          obtain ⟨p00, p01⟩ := p0
          obtain ⟨p10, p11⟩ := p1
          obtain ⟨p20, p21⟩ := p2
          go_wp2_with fail
          have w1 : IntKind.i64.wrap (3 * (i : Int)) = 3 * (i : Int) := IntWalk.i64_in _ (by omega)
          have w2 : IntKind.i64.wrap (3 * (i : Int) + 1) = 3 * (i : Int) + 1 := IntWalk.i64_in _ (by omega)
          have w3 : IntKind.i64.wrap (3 * (i : Int) + 2) = 3 * (i : Int) + 2 := IntWalk.i64_in _ (by omega)
          have w7 : IntKind.i64.wrap (x0 * y0) = x0 * y0 := IntWalk.i64_in _ (by omega)
          have w8 : IntKind.i64.wrap (x1 * y1) = x1 * y1 := IntWalk.i64_in _ (by omega)
          have w9 : IntKind.i64.wrap (x2 * y2) = x2 * y2 := IntWalk.i64_in _ (by omega)
          have w10 : IntKind.i64.wrap (x0 * y0 + x1 * y1) = x0 * y0 + x1 * y1 := IntWalk.i64_in _ (by omega)
          have w11 : IntKind.i64.wrap (x0 * y0 + x1 * y1 + x2 * y2) = x0 * y0 + x1 * y1 + x2 * y2 := IntWalk.i64_in _ (by omega)
          have x0a : (0 : Int) ≤ 3 * (i : Int) := by omega
          have x0b : 3 * (i : Int) < 9 := by omega
          have x0c : (3 * (i : Int)).toNat = 3 * i := by omega
          have x1a : (0 : Int) ≤ 3 * (i : Int) + 1 := by omega
          have x1b : 3 * (i : Int) + 1 < 9 := by omega
          have x1c : (3 * (i : Int) + 1).toNat = 3 * i + 1 := by omega
          have x2a : (0 : Int) ≤ 3 * (i : Int) + 2 := by omega
          have x2b : 3 * (i : Int) + 2 < 9 := by omega
          have x2c : (3 * (i : Int) + 2).toNat = 3 * i + 2 := by omega
          have x3a : (0 : Int) ≤ (i : Int) := by omega
          have x3b : (i : Int) < 3 := by omega
          have x3c : ((i : Int)).toNat = i := by omega
          go_region_held3 (fun w' => w'.cell? ⟨B, 3 * i, none⟩ = some (.int .i64 x0) ∧ w'.cell? ⟨B, 3 * i + 1, none⟩ = some (.int .i64 x1) ∧ w'.cell? ⟨B, 3 * i + 2, none⟩ = some (.int .i64 x2) ∧ w'.cell? ⟨B + 1, 0, none⟩ = some (.int .i64 y0) ∧ w'.cell? ⟨B + 1, 1, none⟩ = some (.int .i64 y1) ∧ w'.cell? ⟨B + 1, 2, none⟩ = some (.int .i64 y2)) (first | go_keep | (refine ⟨?_, ?_, ?_, ?_, ?_, ?_⟩ <;> (rw [World.cell?_setCell_other _ _ _ _ (by intro h; injection h with h; omega)]; simp only [World.cell?_drewN]; assumption))) (first | (go_at_call 33; refine (HDV.out _).mono ?_; rintro e w' ⟨rfl, ⟨nd, rfl⟩⟩))
          clear w1 w2 w3 w7 w8 w9 w10 w11 x0a x0b x0c x1a x1b x1c x2a x2b x2c x3a x3b x3c
          go_wp2
          go_roundw
          case rel => exact ⟨i + 1, _, by omega, by go_num, hd', (k0.drewN _).setOther (by omega) _, (k1.drewN _).setOther (by omega) _, (k2.drewN _).setOther (by omega) _, (k3.drewN _).set i dv, (below_drewN kb _).setCell (by show B ≤ B + 1 + 1 + 1; omega) _, by simpa [World.setCell] using ks⟩
          case measure => simp [intOf]; omega
        · obtain rfl : i = 3 := by omega
          have hp := Lib.hid hd.out.arr
          have G2 := Lib.hid k2
          go_wp2_with (first
            | (refine wpList_load_arr rfl 23 (.tmp 5) rfl rfl k3 Try.underlying23 Mx.hi3 ?_)
            | (refine wpList_store_arr rfl 23 (.tmp 4) (.tmp 54) rfl rfl rfl G2.out (arrN_size _ _) Mx.hi3 ?_))
          refine bodyPost_ret (v := .agg (arrN 3 p)) (results_cell_row rfl _ _ (B + 1 + 1) 23 _ _ _ rfl (holdsN_row G2.out p) Try.underlying23 rfl (by rw [arrN_size]; exact Mx.hi3)) rfl ?_
          exact ⟨by rw [HM.out, hp.out], by rw [HB.out]; exact below_setRow kb (by omega) _⟩
theorem apply_any (m v : Nat → Int) (w : World) :
    Calls Try.prog 19 #[.agg (arrN 9 m), .agg (arrN 3 v)] w fun e w' => e = .returned (.agg (arrN 3 (applyM m v))) ∧ Below w.heap.size w w' := by
  by_cases h : okM m
  · exact apply_ok m v w h
  · exact apply_bad m v w h
end Go.Proofs.Yteehnbgkgdhgaaa.Mx
