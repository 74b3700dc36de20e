/-
  Transposes: matrix.Turned and the reference's.
-/
import Derived.Test.YteehnbgkgdhgaaaMx1
namespace Go.Proofs.Yteehnbgkgdhgaaa.Mx
open Go.RowKit
set_option linter.unusedVariables false

theorem zero9 : (#[.int .i64 0, .int .i64 0, .int .i64 0, .int .i64 0, .int .i64 0, .int .i64 0, .int .i64 0, .int .i64 0, .int .i64 0] : Array Value) = arrN 9 (fun _ => 0) := rfl
theorem zero3 : (#[.int .i64 0, .int .i64 0, .int .i64 0] : Array Value) = arrN 3 (fun _ => 0) := rfl
theorem hi9 : (Try.prog.info? 22).map (·.size) = some 9 := by kernel_rfl
theorem hi3 : (Try.prog.info? 23).map (·.size) = some 3 := by kernel_rfl

/-- the transpose -/
def turnM (m : Nat → Int) : Nat → Int := fun k => m (3 * (k % 3) + k / 3)

/-- where rows ahead of i, and of row i the places ahead of j, are done -/
def Done (i j : Nat) (p : Nat → Int) (pos : Nat → Nat → Nat) (f : Nat → Nat → Int) : Prop := ∀ a b, a < 3 → b < 3 → (a < i ∨ (a = i ∧ b < j)) → p (pos a b) = f a b
theorem Done.zero (p : Nat → Int) (pos : Nat → Nat → Nat) (f : Nat → Nat → Int) : Done 0 0 p pos f := fun a b _ _ h => absurd h (by omega)
theorem Done.next {i : Nat} {p : Nat → Int} {pos : Nat → Nat → Nat} {f : Nat → Nat → Int} (h : Done i 3 p pos f) : Done (i + 1) 0 p pos f := fun a b ha hb hc => h a b ha hb (by omega)
theorem Done.step {i j : Nat} {p : Nat → Int} {pos : Nat → Nat → Nat} {f : Nat → Nat → Int} (h : Done i j p pos f) (hi : i < 3) (hj : j < 3)
    (hpos : ∀ a b, a < 3 → b < 3 → pos a b = pos i j → a = i ∧ b = j) : Done i (j + 1) (upd p (pos i j) (f i j)) pos f := by
  intro a b ha hb hc
  unfold upd
  by_cases he : pos a b = pos i j
  · obtain ⟨rfl, rfl⟩ := hpos a b ha hb he
    rw [if_pos rfl]
  · rw [if_neg he]
    exact h a b ha hb (by
      rcases hc with hc | ⟨hc, hd⟩
      · exact .inl hc
      · by_cases hbj : b = j
        · exact absurd (by rw [hc, hbj]) he
        · exact .inr ⟨hc, by omega⟩)
def posC (a b : Nat) : Nat := 3 * b + a
def posR (a b : Nat) : Nat := 3 * a + b

set_option maxHeartbeats 1000000 in
theorem turned_any (m : Nat → Int) (w : World) :
    Calls Try.prog 29 #[.agg (arrN 9 m)] w fun e w' => e = .returned (.agg (arrN 9 (turnM m))) ∧ Below w.heap.size w w' := by
  go_enter Try.func29, Try.ntmps29
  go_upto_region 2 with fail
  rw [zero9]
  have h0 : holdsN (((w.alloc (.cells (arrN 9 m) 22)).alloc (.cells (arrN 9 fun _ => 0) 22)).alloc (.cells (arrN 9 fun _ => 0) 22)) w.heap.size 22 9 m := ((holdsN_new _ _ _ _).alloc _).alloc _
  have h1 : holdsN (((w.alloc (.cells (arrN 9 m) 22)).alloc (.cells (arrN 9 fun _ => 0) 22)).alloc (.cells (arrN 9 fun _ => 0) 22)) (w.heap.size + 1) 22 9 (fun _ => 0) := by
    have := (holdsN_new (w.alloc (.cells (arrN 9 m) 22)) 22 9 (fun _ => 0)).alloc (.cells (arrN 9 fun _ => 0) 22)
    simpa using this
  have h2 : holdsN (((w.alloc (.cells (arrN 9 m) 22)).alloc (.cells (arrN 9 fun _ => 0) 22)).alloc (.cells (arrN 9 fun _ => 0) 22)) (w.heap.size + 1 + 1) 22 9 (fun _ => 0) := by
    have := holdsN_new ((w.alloc (.cells (arrN 9 m) 22)).alloc (.cells (arrN 9 fun _ => 0) 22)) 22 9 (fun _ => 0)
    simpa using this
  have hb : Below w.heap.size w (((w.alloc (.cells (arrN 9 m) 22)).alloc (.cells (arrN 9 fun _ => 0) 22)).alloc (.cells (arrN 9 fun _ => 0) 22)) := (((Below.refl _ _).alloc (Nat.le_refl _) _).alloc (by simp) _).alloc (by simp; omega) _
  have hs : w.heap.size + 1 + 1 < (((w.alloc (.cells (arrN 9 m) 22)).alloc (.cells (arrN 9 fun _ => 0) 22)).alloc (.cells (arrN 9 fun _ => 0) 22)).heap.size := by simp
  generalize (((w.alloc (.cells (arrN 9 m) 22)).alloc (.cells (arrN 9 fun _ => 0) 22)).alloc (.cells (arrN 9 fun _ => 0) 22)) = wc at *
  generalize hB : w.heap.size = B at *
  have HB := Lib.hid hB
  clear hB
  go_wp2_with fail
  go_loopw [6] (fun v6 wr => ∃ (i : Nat) (p : Nat → Int), i ≤ 3 ∧ v6 = .int .i64 i ∧ holdsN wr B 22 9 m ∧ holdsN wr (B + 1) 22 9 (fun _ => 0) ∧ holdsN wr (B + 1 + 1) 22 9 p ∧ Hid (Done i 0 p posC (fun a b => m (posR a b))) ∧ Below B w wr ∧ B + 1 + 1 < wr.heap.size) (fun v6 _ => 3 - (intOf v6).toNat)
  case atStart => exact ⟨0, fun _ => 0, by omega, rfl, h0, h1, h2, Done.zero _ _ _, hb, hs⟩
  case round =>
    obtain ⟨i, p, hi, rfl, g0, g1, g2, hd, gb, gs⟩ := hrel
    clear h0 h1 h2 hb hs
    by_cases hi3 : i < 3
    · go_wp2_with fail
      obtain ⟨wo, hwo⟩ : ∃ wo : World, wo = wr := ⟨_, rfl⟩
      subst hwo
      go_loopw [5, 9] (fun _ v9 wr => ∃ (j : Nat) (p : Nat → Int), j ≤ 3 ∧ v9 = .int .i64 j ∧ holdsN wr B 22 9 m ∧ holdsN wr (B + 1) 22 9 (fun _ => 0) ∧ holdsN wr (B + 1 + 1) 22 9 p ∧ Hid (Done i j p posC (fun a b => m (posR a b))) ∧ Below B w wr ∧ B + 1 + 1 < wr.heap.size) (fun _ v9 _ => 3 - (intOf v9).toNat)
      case atStart => exact ⟨0, p, by omega, rfl, g0, g1, g2, hd, gb, gs⟩
      case round =>
        obtain ⟨j, p, hj, rfl, k0, k1, k2, hd, kb, ks⟩ := hrel
        by_cases hj3 : j < 3
        · have c1 := k0.cell (3 * i + j) (by omega)
          have c2 := k2.cell (3 * j + i) (by omega)
          have c3 := k2.free (3 * j + i)
          have hd' : Hid (Done i (j + 1) (upd p (posC i j) (m (posR i j))) posC (fun a b => m (posR a b))) := hd.out.step hi3 hj3 (by unfold posC; omega)
          go_wp2
          go_roundw
          case rel => exact ⟨j + 1, _, by omega, by go_num, k0.setOther (by omega) _, k1.setOther (by omega) _, k2.set (3 * j + i) (m (3 * i + j)), hd', kb.setCell (by show B ≤ B + 1 + 1; omega) _, by simpa [World.setCell] using ks⟩
          case measure => simp [intOf]; omega
        · obtain rfl : j = 3 := by omega
          have hd' := Lib.hid hd.out.next
          go_wp2
          go_roundw
          case rel => exact ⟨i + 1, p, by omega, by go_num, k0, k1, k2, hd', kb, ks⟩
          case measure => simp [intOf]; omega
    · obtain rfl : i = 3 := by omega
      have hp : Hid (arrN 9 p = arrN 9 (turnM m)) := by
        refine arrN_congr fun k hk => ?_
        have := hd.out (k % 3) (k / 3) (by omega) (by omega) (by omega)
        rw [show posC (k % 3) (k / 3) = k by unfold posC; omega] at this
        exact this
      have g1' : wr.heap[B + 1]? = some (.cells (arrN 9 fun _ => 0) 22 (0, 0)) := g1
      have G1 := Lib.hid g1'
      clear g1'
      go_wp2_with (first
        | (refine wpList_load_arr rfl 22 (.tmp 3) rfl rfl g2 Try.underlying22 hi9 ?_)
        | (refine wpList_store_arr rfl 22 (.tmp 2) (.tmp 25) rfl rfl rfl G1.out (arrN_size _ _) hi9 ?_))
      refine bodyPost_ret (v := .agg (arrN 9 p)) (results_cell_row rfl _ _ (B + 1) 22 _ _ _ rfl (holdsN_row G1.out p) Try.underlying22 rfl (by rw [arrN_size]; exact hi9)) rfl ?_
      exact ⟨by rw [hp.out], by rw [HB.out]; exact below_setRow gb (by omega) _⟩
set_option maxHeartbeats 1000000 in
theorem rturned_any (m : Nat → Int) (w : World) :
    Calls Try.prog 30 #[.agg (arrN 9 m)] w fun e w' => e = .returned (.agg (arrN 9 (turnM m))) ∧ Below w.heap.size w w' := by
  go_enter Try.func30, Try.ntmps30
  go_upto_region 2 with fail
  rw [zero9]
  have h0 : holdsN (((w.alloc (.cells (arrN 9 m) 22)).alloc (.cells (arrN 9 fun _ => 0) 22)).alloc (.cells (arrN 9 fun _ => 0) 22)) w.heap.size 22 9 m := ((holdsN_new _ _ _ _).alloc _).alloc _
  have h1 : holdsN (((w.alloc (.cells (arrN 9 m) 22)).alloc (.cells (arrN 9 fun _ => 0) 22)).alloc (.cells (arrN 9 fun _ => 0) 22)) (w.heap.size + 1) 22 9 (fun _ => 0) := by
    have := (holdsN_new (w.alloc (.cells (arrN 9 m) 22)) 22 9 (fun _ => 0)).alloc (.cells (arrN 9 fun _ => 0) 22)
    simpa using this
  have h2 : holdsN (((w.alloc (.cells (arrN 9 m) 22)).alloc (.cells (arrN 9 fun _ => 0) 22)).alloc (.cells (arrN 9 fun _ => 0) 22)) (w.heap.size + 1 + 1) 22 9 (fun _ => 0) := by
    have := holdsN_new ((w.alloc (.cells (arrN 9 m) 22)).alloc (.cells (arrN 9 fun _ => 0) 22)) 22 9 (fun _ => 0)
    simpa using this
  have hb : Below w.heap.size w (((w.alloc (.cells (arrN 9 m) 22)).alloc (.cells (arrN 9 fun _ => 0) 22)).alloc (.cells (arrN 9 fun _ => 0) 22)) := (((Below.refl _ _).alloc (Nat.le_refl _) _).alloc (by simp) _).alloc (by simp; omega) _
  have hs : w.heap.size + 1 + 1 < (((w.alloc (.cells (arrN 9 m) 22)).alloc (.cells (arrN 9 fun _ => 0) 22)).alloc (.cells (arrN 9 fun _ => 0) 22)).heap.size := by simp
  generalize (((w.alloc (.cells (arrN 9 m) 22)).alloc (.cells (arrN 9 fun _ => 0) 22)).alloc (.cells (arrN 9 fun _ => 0) 22)) = wc at *
  generalize hB : w.heap.size = B at *
  have HB := Lib.hid hB
  clear hB
  go_wp2_with fail
  go_loopw [4, 5] (fun v6 _ wr => ∃ (i : Nat) (p : Nat → Int), i ≤ 3 ∧ v6 = .int .i64 i ∧ holdsN wr B 22 9 m ∧ holdsN wr (B + 1) 22 9 (fun _ => 0) ∧ holdsN wr (B + 1 + 1) 22 9 p ∧ Hid (Done i 0 p posR (fun a b => m (posC a b))) ∧ Below B w wr ∧ B + 1 + 1 < wr.heap.size) (fun v6 _ _ => 3 - (intOf v6).toNat)
  case atStart => exact ⟨0, fun _ => 0, by omega, rfl, h0, h1, h2, Done.zero _ _ _, hb, hs⟩
  case round =>
    obtain ⟨i, p, hi, rfl, g0, g1, g2, hd, gb, gs⟩ := hrel
    clear h0 h1 h2 hb hs
    by_cases hi3 : i < 3
    · go_wp2_with fail
      obtain ⟨wo, hwo⟩ : ∃ wo : World, wo = wr := ⟨_, rfl⟩
      subst hwo
      go_loopw [5] (fun v9 wr => ∃ (j : Nat) (p : Nat → Int), j ≤ 3 ∧ v9 = .int .i64 j ∧ holdsN wr B 22 9 m ∧ holdsN wr (B + 1) 22 9 (fun _ => 0) ∧ holdsN wr (B + 1 + 1) 22 9 p ∧ Hid (Done i j p posR (fun a b => m (posC a b))) ∧ Below B w wr ∧ B + 1 + 1 < wr.heap.size) (fun v9 _ => 3 - (intOf v9).toNat)
      case atStart => exact ⟨0, p, by omega, rfl, g0, g1, g2, hd, gb, gs⟩
      case round =>
        obtain ⟨j, p, hj, rfl, k0, k1, k2, hd, kb, ks⟩ := hrel
        by_cases hj3 : j < 3
        · have c1 := k0.cell (3 * j + i) (by omega)
          have c2 := k2.cell (3 * i + j) (by omega)
          have c3 := k2.free (3 * i + j)
          have hd' : Hid (Done i (j + 1) (upd p (posR i j) (m (posC i j))) posR (fun a b => m (posC a b))) := hd.out.step hi3 hj3 (by unfold posR; omega)
          go_wp2
          go_roundw
          case rel => exact ⟨j + 1, _, by omega, by go_num, k0.setOther (by omega) _, k1.setOther (by omega) _, k2.set (3 * i + j) (m (3 * j + i)), hd', kb.setCell (by show B ≤ B + 1 + 1; omega) _, by simpa [World.setCell] using ks⟩
          case measure => simp [intOf]; omega
        · obtain rfl : j = 3 := by omega
          have hd' := Lib.hid hd.out.next
          go_wp2
          go_roundw
          case rel => exact ⟨i + 1, p, by omega, by go_num, k0, k1, k2, hd', kb, ks⟩
          case measure => simp [intOf]; omega
    · obtain rfl : i = 3 := by omega
      have hp : Hid (arrN 9 p = arrN 9 (turnM m)) := by
        refine arrN_congr fun k hk => ?_
        have := hd.out (k / 3) (k % 3) (by omega) (by omega) (by omega)
        rw [show posR (k / 3) (k % 3) = k by unfold posR; omega] at this
        exact this
      have g1' : wr.heap[B + 1]? = some (.cells (arrN 9 fun _ => 0) 22 (0, 0)) := g1
      have G1 := Lib.hid g1'
      clear g1'
      go_wp2_with (first
        | (refine wpList_load_arr rfl 22 (.tmp 3) rfl rfl g2 Try.underlying22 hi9 ?_)
        | (refine wpList_store_arr rfl 22 (.tmp 2) (.tmp 25) rfl rfl rfl G1.out (arrN_size _ _) hi9 ?_))
      refine bodyPost_ret (v := .agg (arrN 9 p)) (results_cell_row rfl _ _ (B + 1) 22 _ _ _ rfl (holdsN_row G1.out p) Try.underlying22 rfl (by rw [arrN_size]; exact hi9)) rfl ?_
      exact ⟨by rw [hp.out], by rw [HB.out]; exact below_setRow gb (by omega) _⟩
end Go.Proofs.Yteehnbgkgdhgaaa.Mx
