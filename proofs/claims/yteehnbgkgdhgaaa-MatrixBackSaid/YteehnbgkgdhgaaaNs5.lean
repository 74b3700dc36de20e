/-
  The sine table, quarter turns, sines and Turn, of package num and of its reference.
-/
import Derived.Test.YteehnbgkgdhgaaaNs4
import Derived.Deep.DeepCutAuto
import Derived.Laws.BitsLemmas
import Derived.Laws.CopyOwn
namespace Go.Proofs.Yteehnbgkgdhgaaa.Spec
open Go.RowKit Go.Proofs.Yteehnbgkgdhgaaa.NM Go.Proofs.YteehnbgkgdhgaaaW.PrintWords Go.Proofs.YteehnbgkgdhgaaaW.PrintLast Go.Proofs.YteehnbgkgdhgaaaW.PrintMore
set_option linter.unusedVariables false

theorem below_drewN {B : Nat} {a w : World} (h : Below B a w) (n : Nat) : Below B a (w.drewN n) := ⟨h.os, h.tape, h.output, h.size, h.block⟩

def tabL : List Int := [0, 1608, 3216, 4821, 6424, 8022, 9616, 11204, 12785, 14359, 15924, 17479, 19024,
  20557, 22078, 23586, 25080, 26558, 28020, 29466, 30893, 32303, 33692, 35062, 36410, 37736,
  39040, 40320, 41576, 42806, 44011, 45190, 46341, 47464, 48559, 49624, 50660, 51665, 52639,
  53581, 54491, 55368, 56212, 57022, 57798, 58538, 59244, 59914, 60547, 61145, 61705, 62228,
  62714, 63162, 63572, 63944, 64277, 64571, 64827, 65043, 65220, 65358, 65457, 65516, 65536]
def tabF (j : Nat) : Int := tabL.getD j 0
theorem tabF_range (j : Nat) : 0 ≤ tabF j ∧ tabF j ≤ 65536 := by
  unfold tabF
  by_cases h : j < 65
  · have : ∀ i : Fin 65, 0 ≤ tabL.getD i.val 0 ∧ tabL.getD i.val 0 ≤ 65536 := by decide
    exact this ⟨j, h⟩
  · have : tabL.length = 65 := rfl
    simp [List.getElem?_eq_none (l := tabL) (i := j) (by omega)]
theorem tabF_get (j : Nat) (h : j < 65) : (tabL.map (Value.int .i64))[j]? = some (.int .i64 (tabF j)) := by
  have : j < tabL.length := h
  rw [List.getElem?_map]; unfold tabF; simp [this]
def quarterS (u : Int) : Int := if u = 16384 then 65536 else tabF (u / 256).toNat + divS ((tabF ((u / 256).toNat + 1) - tabF (u / 256).toNat) * (u % 256)) 256

theorem seg_bound (x y t : Int) (hx : 0 ≤ x ∧ x ≤ 65536) (hy : 0 ≤ y ∧ y ≤ 65536) (ht : 0 ≤ t ∧ t ≤ 255) : -16711680 ≤ (y - x) * t ∧ (y - x) * t ≤ 16711680 := by
  have h1 := Int.mul_le_mul_of_nonneg_right (show -65536 ≤ y - x by omega) ht.1
  have h2 := Int.mul_le_mul_of_nonneg_right (show y - x ≤ 65536 by omega) ht.1
  omega
theorem seg_div (x y t : Int) (hx : 0 ≤ x ∧ x ≤ 65536) (hy : 0 ≤ y ∧ y ≤ 65536) (ht : 0 ≤ t ∧ t ≤ 255) : -65536 ≤ divS ((y - x) * t) 256 ∧ divS ((y - x) * t) 256 ≤ 65536 := by
  have := seg_bound x y t hx hy ht
  rw [divS_pos (by omega)]
  omega

def tabV : Array Value := (tabL.map (Value.int .i64)).toArray
theorem wpList_build_as {P : Program} {ops : Array Oper} {rest : List Oper} {o : Oper} {a : Act} {w : World} {Q : Exit → Act → World → Prop} (hg : o.guard = none) (t : TypeId) (parts : Array (Nat × Operand)) (ho : o.op = .build t parts)
    (cells : Array Value) (hc : P.built t (parts.map fun (i, x) => (i, a.eval x)).toList = some cells)
    (h : wpList P ops Q rest (a.put o.dst (.agg cells)) w) : wpList P ops Q (o :: rest) a w :=
  wpList_build hg t parts ho (by rw [hc]; rfl) (by rw [hc]; exact h)

set_option maxHeartbeats 1000000 in
set_option maxRecDepth 100000 in
theorem quarter_any (u : Int) (w : World) (h0 : 0 ≤ u) (h1 : u ≤ 16384) :
    Calls Try.prog 68 #[.int .i64 u] w fun e w' => e = .returned (.int .i64 (quarterS u)) ∧ Below w.heap.size w w' := by
  go_enter Try.func68, Try.ntmps68
  go_upto_region 1 with fail
  go_cut [3] (fun s3 wx => s3 = .pointer (some ⟨w.heap.size, 0, none⟩) ∧ (∀ j, j < 65 → wx.cell? ⟨w.heap.size, j, none⟩ = some (.int .i64 (tabF j))) ∧ Below w.heap.size w wx)
  case first =>
    go_wp2_with (first
      | (refine wpList_build_as rfl 59 _ rfl tabV (by kernel_rfl) ?_)
      | (refine wpList_store_row rfl 59 (.tmp 3) (.tmp 5) rfl w.heap.size tabV rfl rfl 59 Try.zeroCells59 (heap_alloc_new _ _) (by kernel_rfl) (by kernel_rfl) (by kernel_rfl) ?_))
    go_meet
    case rel =>
      refine ⟨rfl, fun j hj => ?_, below_setRow ((Below.refl _ _).alloc (Nat.le_refl _) _) (Nat.le_refl _) _⟩
      rw [cell_setRow_same _ _ _ _ _ _ _ (heap_alloc_new _ _)]
      show (List.toArray _)[j]? = _
      rw [List.getElem?_toArray]; exact tabF_get j hj
  case rest =>
    obtain ⟨rfl, hcell, hb⟩ := hcut
    by_cases he : u = 16384
    · subst he
      have hc64 := hcell 64 (by omega)
      clear hcell
      go_wp2_with fail
      go_ret
      exact ⟨rfl, hb⟩
    · obtain ⟨i, hi⟩ : ∃ i : Nat, u / 256 = (i : Int) := ⟨(u / 256).toNat, by omega⟩
      have hi64 : i < 64 := by omega
      have hq := hcell i (by omega)
      have hq1 := hcell (i + 1) (by omega)
      clear hcell
      have hbx := tabF_range i
      have hby := tabF_range (i + 1)
      have hQ : quarterS u = tabF i + divS ((tabF (i + 1) - tabF i) * (u % 256)) 256 := by
        unfold quarterS; rw [if_neg he, hi]; rfl
      have HQ := Lib.hid hQ
      clear hQ
      generalize tabF i = x at *
      generalize tabF (i + 1) = y at *
      have ht0 : 0 ≤ u % 256 := by omega
      have ht1 : u % 256 ≤ 255 := by omega
      obtain ⟨hs0, hs1⟩ := seg_bound x y (u % 256) hbx hby ⟨ht0, ht1⟩
      obtain ⟨hd0, hd1⟩ := seg_div x y (u % 256) hbx hby ⟨ht0, ht1⟩
      obtain ⟨hbx0, hbx1⟩ := hbx
      obtain ⟨hby0, hby1⟩ := hby
      have hdiv := fun w => div_any ((y - x) * (u % 256)) 256 w (by unfold I64; omega) (by unfold I64; omega)
      have HD := Lib.hid hdiv
      clear hdiv
      generalize divS ((y - x) * (u % 256)) 256 = dv at *
      go_wp2_with fail
      go_quiet ((go_at_call 33; exact Calls.quiet_of ((HD.out _).mono fun e w' h => ⟨h.1, h.2.out⟩)))
      go_wp2
      go_ret
      exact ⟨ret_int HQ.out.symm, below_drewN hb _⟩

/-! the reference -/
set_option maxHeartbeats 1000000 in
set_option maxRecDepth 100000 in
theorem table_any (w : World) : Calls Try.prog 70 #[] w fun e w' => e = .returned (.agg tabV) ∧ Below w.heap.size w w' := by
  go_enter Try.func70, Try.ntmps70
  go_wp2_with (first
      | (refine wpList_build_as rfl 59 _ rfl tabV (by kernel_rfl) ?_)
      | (refine wpList_store_row rfl 59 (.tmp 0) (.tmp 1) rfl w.heap.size tabV rfl rfl 59 Try.zeroCells59 (heap_alloc_new _ _) (by kernel_rfl) (by kernel_rfl) (by kernel_rfl) ?_))
  refine bodyPost_ret (v := .agg tabV) (results_cell_row rfl _ _ w.heap.size 59 _ _ _ rfl (setRow_heap _ _ _ _ _ _ (heap_alloc_new _ _)) Try.underlying59 rfl (by kernel_rfl)) rfl ?_
  exact ⟨rfl, below_setRow ((Below.refl _ _).alloc (Nat.le_refl _) _) (Nat.le_refl _) _⟩
set_option maxHeartbeats 1000000 in
set_option maxRecDepth 100000 in
theorem rquarter_any (u : Int) (w : World) (h0 : 0 ≤ u) (h1 : u ≤ 16384) :
    Calls Try.prog 69 #[.int .i64 u] w fun e w' => e = .returned (.int .i64 (quarterS u)) ∧ Below w.heap.size w w' := by
  go_enter Try.func69, Try.ntmps69
  go_upto_region 1 with fail
  go_cut [3] (fun s3 wx => ∃ g : Nat, s3 = .pointer (some ⟨g, 0, none⟩) ∧ (∀ j, j < 65 → wx.cell? ⟨g, j, none⟩ = some (.int .i64 (tabF j))) ∧ Below w.heap.size w wx)
  case first =>
    go_wp2_with (first
      | (go_at_call 70; refine (table_any _).mono ?_; rintro e w1 ⟨rfl, hb1⟩)
      | (refine wpList_store_row rfl 59 (.tmp 3) (.tmp 5) rfl w1.heap.size tabV rfl rfl 59 Try.zeroCells59 (heap_alloc_new _ _) (by kernel_rfl) (by kernel_rfl) (by kernel_rfl) ?_))
    go_meet
    case rel =>
      refine ⟨w1.heap.size, rfl, fun j hj => ?_, below_setRow (hb1.alloc hb1.size _) hb1.size _⟩
      rw [cell_setRow_same _ _ _ _ _ _ _ (heap_alloc_new _ _)]
      show (List.toArray _)[j]? = _
      rw [List.getElem?_toArray]; exact tabF_get j hj
  case rest =>
    obtain ⟨g, rfl, hcell, hb⟩ := hcut
    by_cases he : u = 16384
    · subst he
      have hc64 := hcell 64 (by omega)
      clear hcell
      go_wp2_with fail
      go_ret
      exact ⟨rfl, hb⟩
    · obtain ⟨i, hi⟩ : ∃ i : Nat, u / 256 = (i : Int) := ⟨(u / 256).toNat, by omega⟩
      have hi64 : i < 64 := by omega
      have hq := hcell i (by omega)
      have hq1 := hcell (i + 1) (by omega)
      clear hcell
      have hbx := tabF_range i
      have hby := tabF_range (i + 1)
      have hQ : quarterS u = tabF i + divS ((tabF (i + 1) - tabF i) * (u % 256)) 256 := by
        unfold quarterS; rw [if_neg he, hi]; rfl
      have HQ := Lib.hid hQ
      have hmod : u - 256 * (i : Int) = u % 256 := by omega
      clear hQ
      generalize tabF i = x at *
      generalize tabF (i + 1) = y at *
      have ht0 : 0 ≤ u % 256 := by omega
      have ht1 : u % 256 ≤ 255 := by omega
      obtain ⟨hs0, hs1⟩ := seg_bound x y (u % 256) hbx hby ⟨ht0, ht1⟩
      obtain ⟨hd0, hd1⟩ := seg_div x y (u % 256) hbx hby ⟨ht0, ht1⟩
      obtain ⟨hbx0, hbx1⟩ := hbx
      obtain ⟨hby0, hby1⟩ := hby
      have hdiv := fun w => rdiv_any ((y - x) * (u % 256)) 256 w (by unfold I64; omega) (by unfold I64; omega)
      have HD := Lib.hid hdiv
      clear hdiv
      generalize divS ((y - x) * (u % 256)) 256 = dv at *
      go_wp2_with fail
      go_quiet ((go_at_call 34; exact Calls.quiet_of ((HD.out _).mono fun e w' h => ⟨h.1, h.2.out⟩)))
      go_wp2
      go_ret
      exact ⟨ret_int HQ.out.symm, below_drewN hb _⟩



theorem quarterS_range (u : Int) (h0 : 0 ≤ u) (h1 : u ≤ 16384) : -131072 ≤ quarterS u ∧ quarterS u ≤ 131072 := by
  unfold quarterS
  split
  · omega
  · have hx := tabF_range (u / 256).toNat
    have hd := seg_div _ _ (u % 256) hx (tabF_range ((u / 256).toNat + 1)) (by omega)
    omega
def sineS (a : Int) : Int := if a / 16384 = 0 then quarterS (a % 16384) else if a / 16384 = 1 then quarterS (16384 - a % 16384) else if a / 16384 = 2 then -quarterS (a % 16384) else -quarterS (16384 - a % 16384)

set_option maxHeartbeats 1000000 in
theorem sine_any (a : Int) (w : World) (h0 : 0 ≤ a) (h1 : a < 65536) :
    Calls Try.prog 66 #[.int .i64 a] w fun e w' => e = .returned (.int .i64 (sineS a)) ∧ Below w.heap.size w w' := by
  have hr0 : 0 ≤ a % 16384 := by omega
  have hr1 : a % 16384 < 16384 := by omega
  by_cases hc0 : a < 16384
  · have HS : Hid (sineS a = quarterS (a % 16384)) := by
      show _ = _
      unfold sineS; rw [if_pos (show a / 16384 = 0 by omega)]
    have hqr := quarterS_range (a % 16384) (by omega) (by omega)
    obtain ⟨hqr0, hqr1⟩ := hqr
    have hq := fun w => quarter_any (a % 16384) w (by omega) (by omega)
    generalize quarterS (a % 16384) = qv at *
    have HQ := Lib.hid hq
    clear hq
    go_enter Try.func66, Try.ntmps66
    go_wp2_with fail
    refine (HQ.out _).mono ?_; rintro e w' ⟨rfl, hb⟩
    go_wp2
    go_ret
    exact ⟨ret_int HS.out.symm, hb⟩
  · by_cases hc1 : a < 32768
    · have HS : Hid (sineS a = quarterS (16384 - a % 16384)) := by
        show _ = _
        unfold sineS; rw [if_neg (show ¬ a / 16384 = 0 by omega)]; rw [if_pos (show a / 16384 = 1 by omega)]
      have hqr := quarterS_range (16384 - a % 16384) (by omega) (by omega)
      obtain ⟨hqr0, hqr1⟩ := hqr
      have hq := fun w => quarter_any (16384 - a % 16384) w (by omega) (by omega)
      generalize quarterS (16384 - a % 16384) = qv at *
      have HQ := Lib.hid hq
      clear hq
      go_enter Try.func66, Try.ntmps66
      go_wp2_with fail
      refine (HQ.out _).mono ?_; rintro e w' ⟨rfl, hb⟩
      go_wp2
      go_ret
      exact ⟨ret_int HS.out.symm, hb⟩
    · by_cases hc2 : a < 49152
      · have HS : Hid (sineS a = -quarterS (a % 16384)) := by
          show _ = _
          unfold sineS; rw [if_neg (show ¬ a / 16384 = 0 by omega)]; rw [if_neg (show ¬ a / 16384 = 1 by omega)]; rw [if_pos (show a / 16384 = 2 by omega)]
        have hqr := quarterS_range (a % 16384) (by omega) (by omega)
        obtain ⟨hqr0, hqr1⟩ := hqr
        have hq := fun w => quarter_any (a % 16384) w (by omega) (by omega)
        generalize quarterS (a % 16384) = qv at *
        have HQ := Lib.hid hq
        clear hq
        go_enter Try.func66, Try.ntmps66
        go_wp2_with fail
        refine (HQ.out _).mono ?_; rintro e w' ⟨rfl, hb⟩
        go_wp2
        go_ret
        exact ⟨ret_int HS.out.symm, hb⟩
      · have HS : Hid (sineS a = -quarterS (16384 - a % 16384)) := by
          show _ = _
          unfold sineS; rw [if_neg (show ¬ a / 16384 = 0 by omega)]; rw [if_neg (show ¬ a / 16384 = 1 by omega)]; rw [if_neg (show ¬ a / 16384 = 2 by omega)]
        have hqr := quarterS_range (16384 - a % 16384) (by omega) (by omega)
        obtain ⟨hqr0, hqr1⟩ := hqr
        have hq := fun w => quarter_any (16384 - a % 16384) w (by omega) (by omega)
        generalize quarterS (16384 - a % 16384) = qv at *
        have HQ := Lib.hid hq
        clear hq
        go_enter Try.func66, Try.ntmps66
        go_wp2_with fail
        refine (HQ.out _).mono ?_; rintro e w' ⟨rfl, hb⟩
        go_wp2
        go_ret
        exact ⟨ret_int HS.out.symm, hb⟩

set_option maxHeartbeats 1000000 in
theorem rsine_any (a : Int) (w : World) (h0 : 0 ≤ a) (h1 : a < 65536) :
    Calls Try.prog 67 #[.int .i64 a] w fun e w' => e = .returned (.int .i64 (sineS a)) ∧ Below w.heap.size w w' := by
  have hr0 : 0 ≤ a % 16384 := by omega
  have hr1 : a % 16384 < 16384 := by omega
  by_cases hc0 : a < 16384
  · have HS : Hid (sineS a = quarterS (a % 16384)) := by
      show _ = _
      unfold sineS; rw [if_pos (show a / 16384 = 0 by omega)]
    have hqr := quarterS_range (a % 16384) (by omega) (by omega)
    obtain ⟨hqr0, hqr1⟩ := hqr
    have hq := fun w => rquarter_any (a % 16384) w (by omega) (by omega)
    generalize quarterS (a % 16384) = qv at *
    have HQ := Lib.hid hq
    clear hq
    go_enter Try.func67, Try.ntmps67
    go_wp2_with fail
    rw [show a - 16384 * (a / 16384) = a % 16384 from by omega]
    refine (HQ.out _).mono ?_; rintro e w' ⟨rfl, hb⟩
    go_wp2
    go_ret
    exact ⟨ret_int HS.out.symm, hb⟩
  · by_cases hc1 : a < 32768
    · have HS : Hid (sineS a = quarterS (16384 - a % 16384)) := by
        show _ = _
        unfold sineS; rw [if_neg (show ¬ a / 16384 = 0 by omega)]; rw [if_pos (show a / 16384 = 1 by omega)]
      have hqr := quarterS_range (16384 - a % 16384) (by omega) (by omega)
      obtain ⟨hqr0, hqr1⟩ := hqr
      have hq := fun w => rquarter_any (16384 - a % 16384) w (by omega) (by omega)
      generalize quarterS (16384 - a % 16384) = qv at *
      have HQ := Lib.hid hq
      clear hq
      go_enter Try.func67, Try.ntmps67
      go_wp2_with fail
      rw [show a - 16384 * (a / 16384) = a % 16384 from by omega]
      refine (HQ.out _).mono ?_; rintro e w' ⟨rfl, hb⟩
      go_wp2
      go_ret
      exact ⟨ret_int HS.out.symm, hb⟩
    · by_cases hc2 : a < 49152
      · have HS : Hid (sineS a = -quarterS (a % 16384)) := by
          show _ = _
          unfold sineS; rw [if_neg (show ¬ a / 16384 = 0 by omega)]; rw [if_neg (show ¬ a / 16384 = 1 by omega)]; rw [if_pos (show a / 16384 = 2 by omega)]
        have hqr := quarterS_range (a % 16384) (by omega) (by omega)
        obtain ⟨hqr0, hqr1⟩ := hqr
        have hq := fun w => rquarter_any (a % 16384) w (by omega) (by omega)
        generalize quarterS (a % 16384) = qv at *
        have HQ := Lib.hid hq
        clear hq
        go_enter Try.func67, Try.ntmps67
        go_wp2_with fail
        rw [show a - 16384 * (a / 16384) = a % 16384 from by omega]
        refine (HQ.out _).mono ?_; rintro e w' ⟨rfl, hb⟩
        go_wp2
        go_ret
        exact ⟨ret_int HS.out.symm, hb⟩
      · have HS : Hid (sineS a = -quarterS (16384 - a % 16384)) := by
          show _ = _
          unfold sineS; rw [if_neg (show ¬ a / 16384 = 0 by omega)]; rw [if_neg (show ¬ a / 16384 = 1 by omega)]; rw [if_neg (show ¬ a / 16384 = 2 by omega)]
        have hqr := quarterS_range (16384 - a % 16384) (by omega) (by omega)
        obtain ⟨hqr0, hqr1⟩ := hqr
        have hq := fun w => rquarter_any (16384 - a % 16384) w (by omega) (by omega)
        generalize quarterS (16384 - a % 16384) = qv at *
        have HQ := Lib.hid hq
        clear hq
        go_enter Try.func67, Try.ntmps67
        go_wp2_with fail
        rw [show a - 16384 * (a / 16384) = a % 16384 from by omega]
        refine (HQ.out _).mono ?_; rintro e w' ⟨rfl, hb⟩
        go_wp2
        go_ret
        exact ⟨ret_int HS.out.symm, hb⟩

theorem i64_and16 (a : Int) : Go.bits .and .i64 a 65535 = a % 65536 := by
  show IntKind.i64.wrap ((BitVec.ofInt 64 a &&& BitVec.ofInt 64 65535).toNat : Int) = _
  rw [BitVec.toNat_and, BitVec.toNat_ofInt, show (BitVec.ofInt 64 65535).toNat = 2 ^ 16 - 1 from by decide, Nat.and_two_pow_sub_one_eq_mod, IntKind.wrap_i64]
  omega

set_option maxHeartbeats 1000000 in
theorem turn_any (a : Int) (w : World) (ha : I64 a) :
    Calls Try.prog 52 #[.int .i64 a] w fun e w' => e = .returned (.tuple #[.int .i64 (sineS (a % 65536)), .int .i64 (sineS ((a + 16384) % 65536))]) ∧ Below w.heap.size w w' := by
  have h1 := i64_and16 a
  have h2 : Go.bits .and .i64 (a % 65536 + 16384) 65535 = (a + 16384) % 65536 := by rw [i64_and16]; omega
  have hr0 : 0 ≤ a % 65536 := by omega
  have hr1 : a % 65536 < 65536 := by omega
  have hq1 := fun w => sine_any (a % 65536) w (by omega) (by omega)
  have hq2 := fun w => sine_any ((a + 16384) % 65536) w (by omega) (by omega)
  have HQ1 := Lib.hid hq1
  have HQ2 := Lib.hid hq2
  clear hq1 hq2
  go_enter Try.func52, Try.ntmps52
  go_wp2_with fail
  refine (HQ1.out _).mono ?_; rintro e w' ⟨rfl, hb⟩
  go_wp2_with fail
  refine (HQ2.out _).mono ?_; rintro e w'' ⟨rfl, hb'⟩
  go_wp2
  go_ret2
  exact ⟨rfl, hb.trans (hb'.mono hb.size)⟩
set_option maxHeartbeats 1000000 in
theorem rturn_any (a : Int) (w : World) (ha : I64 a) :
    Calls Try.prog 53 #[.int .i64 a] w fun e w' => e = .returned (.tuple #[.int .i64 (sineS (a % 65536)), .int .i64 (sineS ((a + 16384) % 65536))]) ∧ Below w.heap.size w w' := by
  have hq1 := fun w => rsine_any (a % 65536) w (by omega) (by omega)
  have hq2 := fun w => rsine_any ((a + 16384) % 65536) w (by omega) (by omega)
  have HQ1 := Lib.hid hq1
  have HQ2 := Lib.hid hq2
  clear hq1 hq2
  have hts := tdiv_spec a 65536
  have htb := (tmod_bounds a 65536 (by omega)).1
  have HTS := Lib.hid hts
  have HTB := Lib.hid htb
  clear hts htb
  by_cases hn : a.tmod 65536 < 0
  · have h1 : a.tmod 65536 + 65536 = a % 65536 := by have := HTS.out; have := HTB.out; omega
    have hl : -65536 < a.tmod 65536 := by have := HTB.out; omega
    have h2 : (a % 65536 + 16384) % 65536 = (a + 16384) % 65536 := by omega
    have hr0 : 0 ≤ a % 65536 := by omega
    have hr1 : a % 65536 < 65536 := by omega
    go_enter Try.func53, Try.ntmps53
    go_wp2_with fail
    refine (HQ1.out _).mono ?_; rintro e w' ⟨rfl, hb⟩
    go_wp2_with fail
    refine (HQ2.out _).mono ?_; rintro e w'' ⟨rfl, hb'⟩
    go_wp2
    go_ret2
    exact ⟨rfl, hb.trans (hb'.mono hb.size)⟩
  · have h1 : a.tmod 65536 = a % 65536 := by have := HTS.out; have := HTB.out; omega
    have h2 : (a % 65536 + 16384) % 65536 = (a + 16384) % 65536 := by omega
    have hr0 : 0 ≤ a % 65536 := by omega
    have hr1 : a % 65536 < 65536 := by omega
    rw [h1] at hn
    go_enter Try.func53, Try.ntmps53
    go_wp2_with fail
    refine (HQ1.out _).mono ?_; rintro e w' ⟨rfl, hb⟩
    go_wp2_with fail
    refine (HQ2.out _).mono ?_; rintro e w'' ⟨rfl, hb'⟩
    go_wp2
    go_ret2
    exact ⟨rfl, hb.trans (hb'.mono hb.size)⟩
end Go.Proofs.Yteehnbgkgdhgaaa.Spec
