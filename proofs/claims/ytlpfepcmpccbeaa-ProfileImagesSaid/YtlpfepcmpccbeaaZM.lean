/-
  Proved: contracts of functions of the program and of the reference, several texts of mine in one; the conditions stand at each theorem.
-/
import Derived.Test.YtlpfepcmpccbeaaProg
import Derived.WalkKit
import Derived.Deep.DeepCutAuto
import Derived.Laws.Tables
import Derived.Laws.Rows
import Derived.Laws.CopyOwn
import Derived.Lib.Hide
import Derived.Outline
import Derived.KernelRfl
import Derived.Deep.LoopGhost
import Derived.Deep.Draws
import Derived.Deep.QuietTactic
import Derived.BigQuiet
import Derived.Test.YtlpfepcmpccbeaaZA
import Derived.Deep.RegionHeld3
import Derived.IntWalk
import Derived.Deep.Quiet
import Derived.Laws.ResultCell
import Derived.Laws.StructEq
/-
  Arrays of ints as functions on places: an array's value, its block, a store into it.
-/
namespace Go.Proofs.Ytlpfepcmpccbeaa.Mx
open Go.RowKit
set_option linter.unusedVariables false

theorem ret_int {k : IntKind} {a b : Int} (h : a = b) : Ending.returned (.int k a) = .returned (.int k b) := by rw [h]
/-- n ints, as the array that holds them -/
def arrN (n : Nat) (m : Nat → Int) : Array Value := ((List.range n).map fun k => Value.int .i64 (m k)).toArray
theorem arrN_size (n : Nat) (m : Nat → Int) : (arrN n m).size = n := by simp [arrN]
theorem arrN_get (n : Nat) (m : Nat → Int) (k : Nat) (h : k < n) : (arrN n m)[k]? = some (.int .i64 (m k)) := by simp [arrN, h]
theorem arrN_congr {n : Nat} {m p : Nat → Int} (h : ∀ k, k < n → m k = p k) : arrN n m = arrN n p := by
  unfold arrN
  congr 1
  apply List.map_congr_left
  intro k hk
  rw [h k (by simpa using hk)]
def upd (p : Nat → Int) (i : Nat) (v : Int) : Nat → Int := fun k => if k = i then v else p k
theorem arrN_set (n : Nat) (p : Nat → Int) (i : Nat) (v : Int) : (arrN n p).setIfInBounds i (.int .i64 v) = arrN n (upd p i v) := by
  apply Array.ext
  · simp [arrN]
  · intro k h1 h2
    by_cases h : i = k
    · simp [arrN, upd, h]
    · simp [arrN, upd, h, show ¬ k = i by omega]

/-- the block g holds these n ints -/
def holdsN (w : World) (g t n : Nat) (m : Nat → Int) : Prop := w.heap[g]? = some (.cells (arrN n m) t (0, 0))
theorem holdsN.cell {w : World} {g t n : Nat} {m : Nat → Int} (h : holdsN w g t n m) (k : Nat) (hk : k < n) : w.cell? ⟨g, k, none⟩ = some (.int .i64 (m k)) := by
  rw [cell_of_row w g k _ t _ h, arrN_get n m k hk]
theorem holdsN.free {w : World} {g t n : Nat} {m : Nat → Int} (h : holdsN w g t n m) (k : Nat) : w.frozen? ⟨g, k, none⟩ = false := by
  have h' : w.heap[g]? = some (.cells (arrN n m) t (0, 0)) := h
  simp [World.frozen?, h']
theorem holdsN.set {w : World} {g t n : Nat} {m : Nat → Int} (h : holdsN w g t n m) (k : Nat) (v : Int) : holdsN (w.setCell ⟨g, k, none⟩ (.int .i64 v)) g t n (upd m k v) := by
  unfold holdsN
  rw [setCell_eq_setRow w g k _ t _ _ h, setRow_heap w g _ _ t _ h, arrN_set]
theorem holdsN.lt {w : World} {g t n : Nat} {m : Nat → Int} (h : holdsN w g t n m) : g < w.heap.size := by
  have h' : w.heap[g]? = some (.cells (arrN n m) t (0, 0)) := h
  exact (Array.getElem?_eq_some_iff.1 h').1
theorem holdsN.kept {w w' : World} {g t n : Nat} {m : Nat → Int} (h : holdsN w g t n m) {B : Nat} (hb : Below B w w') (hg : g < B) : holdsN w' g t n m := by
  unfold holdsN
  rw [hb.block g hg]; exact h
theorem holdsN.drewN {w : World} {g t n : Nat} {m : Nat → Int} (h : holdsN w g t n m) (k : Nat) : holdsN (w.drewN k) g t n m := h
theorem holdsN.alloc {w : World} {g t n : Nat} {m : Nat → Int} (h : holdsN w g t n m) (o : Obj) : holdsN (w.alloc o) g t n m := by
  unfold holdsN
  have hl := h.lt
  show (w.heap.push o)[g]? = _
  rw [Array.getElem?_push, if_neg (by omega)]; exact h
theorem holdsN_new (w : World) (t n : Nat) (m : Nat → Int) : holdsN (w.alloc (.cells (arrN n m) t)) w.heap.size t n m := heap_alloc_new _ _
theorem holdsN_row {w : World} {g t n : Nat} {old : Array Value} (h : w.heap[g]? = some (.cells old t (0, 0))) (m : Nat → Int) : holdsN (w.setRow g (arrN n m)) g t n m := setRow_heap w g old _ t _ h
theorem holdsN.setOther {w : World} {g t n g' k : Nat} {m : Nat → Int} (h : holdsN w g t n m) (hne : g ≠ g') (v : Value) : holdsN (w.setCell ⟨g', k, none⟩ v) g t n m := by
  unfold holdsN at *
  rw [← h]
  simp only [World.setCell]
  rw [Array.getElem?_modify, if_neg (by omega)]

theorem wpList_build_as {P : Program} {ops : Array Oper} {rest : List Oper} {o : Oper} {a : Act} {w : World} {Q : Exit → Act → World → Prop} (hg : o.guard = none) (t : TypeId) (parts : Array (Nat × Operand)) (ho : o.op = .build t parts)
    (cells : Array Value) (hc : P.built t (parts.map fun (i, x) => (i, a.eval x)).toList = some cells)
    (h : wpList P ops Q rest (a.put o.dst (.agg cells)) w) : wpList P ops Q (o :: rest) a w :=
  wpList_build hg t parts ho (by rw [hc]; rfl) (by rw [hc]; exact h)

theorem below_drewN {B : Nat} {a w : World} (h : Below B a w) (n : Nat) : Below B a (w.drewN n) := ⟨h.os, h.tape, h.output, h.size, h.block⟩

theorem arrN_one (n : Nat) (m : Nat → Int) : (arrN n m).all (·.oneCell') = true := by
  rw [Array.all_eq_true_iff_forall_mem]
  intro v hv
  unfold arrN at hv
  simp only [List.mem_toArray, List.mem_map] at hv
  obtain ⟨k, _, rfl⟩ := hv
  rfl
theorem wpList_load_arr {P : Program} {ops : Array Oper} {rest : List Oper} {o : Oper} {a : Act} {w : World} {Q : Exit → Act → World → Prop} (hgd : o.guard = none) (ty : TypeId) (x : Operand) (ho : o.op = .load ty x)
    {g t n : Nat} {m : Nat → Int} (hx : a.eval x = .pointer (some ⟨g, 0, none⟩)) (hh : holdsN w g t n m) {k : Nat} {e : TypeId} (hu : P.underlying ty = some (.array k e)) (hi : (P.info? ty).map (·.size) = some n)
    (h : wpList P ops Q rest (a.put o.dst (.agg (arrN n m))) w) : wpList P ops Q (o :: rest) a w :=
  wpList_load_row hgd ty x ho g hx t (arrN n m) (0, 0) _ hh hu rfl (by rw [arrN_size]; exact hi) h
theorem wpList_store_arr {P : Program} {ops : Array Oper} {rest : List Oper} {o : Oper} {a : Act} {w : World} {Q : Exit → Act → World → Prop} (hgd : o.guard = none) (ty : TypeId) (x y : Operand) (ho : o.op = .store ty x y)
    {g t n : Nat} {m : Nat → Int} (hx : a.eval x = .pointer (some ⟨g, 0, none⟩)) (hy : a.eval y = .agg (arrN n m)) {old : Array Value} (hg : w.heap[g]? = some (.cells old t (0, 0))) (hold : old.size = n) (hi : (P.info? ty).map (·.size) = some n)
    (h : wpList P ops Q rest (a.put o.dst undef) (w.setRow g (arrN n m))) : wpList P ops Q (o :: rest) a w :=
  wpList_store_row hgd ty x y ho g (arrN n m) hx hy t old hg (by rw [arrN_size]; exact hi) (by rw [arrN_size]; exact hold) (arrN_one n m) h
theorem run_index_arr {P : Program} (t e : TypeId) (n : Nat) (m : Nat → Int) (k : Nat) (hk : k < n) (hu : P.underlying t = some (.array n e)) (hs : (P.info? e).map (·.size) = some 1) (ha : ∀ w, (isAgg e).run P w = .ok false w) (w : World) :
    (Instr.index t (.agg (arrN n m)) (.int .i64 (k : Int))).run P w = .ok (.int .i64 (m k)) w := by
  cases hi : P.info? e with
  | none => simp [hi] at hs
  | some i =>
    have hs1 : i.size = 1 := by simpa [hi] using hs
    simp [Instr.index, run_underlying hu, asIntOf, sizeOf, typeInfo, hi, hs1, hk, part, ha w, arrN_get n m k hk]

/-- a matrix whose elements are within the limits -/
def okM (m : Nat → Int) : Prop := ∀ k, k < 9 → -1048576 ≤ m k ∧ m k ≤ 1048576
instance (m : Nat → Int) : Decidable (okM m) := by unfold okM; exact Nat.decidableBallLT 9 _
def codeM (m : Nat → Int) : Int := if okM m then 0 else 2

set_option maxHeartbeats 1000000 in
theorem check_any (m : Nat → Int) (w : World) :
    Calls Try.prog 75 #[.agg (arrN 9 m)] w fun e w' => e = .returned (.int .i64 (codeM m)) ∧ Below w.heap.size w w' := by
  go_enter Try.func75, Try.ntmps75
  go_wp2_with (refine wpList_load_arr rfl 23 (.tmp 1) rfl rfl (holdsN_new _ _ _ _) Try.underlying23 (by kernel_rfl) ?_)
  go_loop [2, 4, 6] (fun _ _ v6 => ∃ k : Nat, k ≤ 9 ∧ v6 = .int .i64 k ∧ Hid (∀ j, j < k → -1048576 ≤ m j ∧ m j ≤ 1048576)) (fun _ _ i => 9 - (intOf i).toNat)
  case atStart => exact ⟨0, by omega, rfl, fun j hj => absurd hj (by omega)⟩
  case round =>
    obtain ⟨k, hk, rfl, hrg⟩ := hrel
    by_cases hk9 : k < 9
    · have hidx := run_index_arr (P := Try.prog) 23 3 9 m k hk9 Try.underlying23 (by kernel_rfl) (fun _ => by kernel_rfl)
      by_cases h1 : m k < -1048576
      · have hc : Hid (codeM m = 2) := by show _ = _; unfold codeM; rw [if_neg]; intro h; have := (h k hk9).1; omega
        go_wp2
        go_ret
        exact ⟨ret_int hc.out.symm, (Below.refl _ _).alloc (Nat.le_refl _) _⟩
      · by_cases h2 : 1048576 < m k
        · have hc : Hid (codeM m = 2) := by show _ = _; unfold codeM; rw [if_neg]; intro h; have := (h k hk9).2; omega
          go_wp2
          go_ret
          exact ⟨ret_int hc.out.symm, (Below.refl _ _).alloc (Nat.le_refl _) _⟩
        · have hrg' : Hid (∀ j, j < k + 1 → -1048576 ≤ m j ∧ m j ≤ 1048576) := by
            intro j hj
            by_cases he : j = k
            · subst he; omega
            · exact hrg.out j (by omega)
          go_wp2
          go_round
          case rel => exact ⟨k + 1, by omega, by go_num, hrg'⟩
          case measure => simp [intOf]; omega
    · obtain rfl : k = 9 := by omega
      have hc : Hid (codeM m = 0) := by show _ = _; unfold codeM; rw [if_pos]; exact hrg.out
      go_wp2
      go_ret
      exact ⟨ret_int hc.out.symm, (Below.refl _ _).alloc (Nat.le_refl _) _⟩
end Go.Proofs.Ytlpfepcmpccbeaa.Mx
/-
  Transposes: matrix.Turned and the reference's.
-/
namespace Go.Proofs.Ytlpfepcmpccbeaa.Mx
open Go.RowKit
set_option linter.unusedVariables false

theorem zero9 : (#[.int .i64 0, .int .i64 0, .int .i64 0, .int .i64 0, .int .i64 0, .int .i64 0, .int .i64 0, .int .i64 0, .int .i64 0] : Array Value) = arrN 9 (fun _ => 0) := rfl
theorem zero3 : (#[.int .i64 0, .int .i64 0, .int .i64 0] : Array Value) = arrN 3 (fun _ => 0) := rfl
theorem hi9 : (Try.prog.info? 23).map (·.size) = some 9 := by kernel_rfl
theorem hi3 : (Try.prog.info? 47).map (·.size) = some 3 := by kernel_rfl

/-- the transpose -/
def turnM (m : Nat → Int) : Nat → Int := fun k => m (3 * (k % 3) + k / 3)

/-- where rows ahead of i, and of row i the places ahead of j, are done -/
def Done (i j : Nat) (p : Nat → Int) (pos : Nat → Nat → Nat) (f : Nat → Nat → Int) : Prop := ∀ a b, a < 3 → b < 3 → (a < i ∨ (a = i ∧ b < j)) → p (pos a b) = f a b
theorem Done.zero (p : Nat → Int) (pos : Nat → Nat → Nat) (f : Nat → Nat → Int) : Done 0 0 p pos f := fun a b _ _ h => absurd h (by omega)
theorem Done.next {i : Nat} {p : Nat → Int} {pos : Nat → Nat → Nat} {f : Nat → Nat → Int} (h : Done i 3 p pos f) : Done (i + 1) 0 p pos f := fun a b ha hb hc => h a b ha hb (by omega)
theorem Done.step {i j : Nat} {p : Nat → Int} {pos : Nat → Nat → Nat} {f : Nat → Nat → Int} (h : Done i j p pos f) (hi : i < 3) (hj : j < 3)
    (hpos : ∀ a b, a < 3 → b < 3 → pos a b = pos i j → a = i ∧ b = j) : Done i (j + 1) (upd p (pos i j) (f i j)) pos f := by
  intro a b ha hb hc
  unfold upd
  by_cases he : pos a b = pos i j
  · obtain ⟨rfl, rfl⟩ := hpos a b ha hb he
    rw [if_pos rfl]
  · rw [if_neg he]
    exact h a b ha hb (by
      rcases hc with hc | ⟨hc, hd⟩
      · exact .inl hc
      · by_cases hbj : b = j
        · exact absurd (by rw [hc, hbj]) he
        · exact .inr ⟨hc, by omega⟩)
def posC (a b : Nat) : Nat := 3 * b + a
def posR (a b : Nat) : Nat := 3 * a + b

end Go.Proofs.Ytlpfepcmpccbeaa.Mx
/-
  Products: matrix.Mul.
-/
namespace Go.Proofs.Ytlpfepcmpccbeaa.Mx
open Go.RowKit Go.Proofs.Ytlpfepcmpccbeaa.NM Go.Proofs.Ytlpfepcmpccbeaa.Spec Go.Proofs.YtlpfepcmpccbeaaW.PrintWords
set_option linter.unusedVariables false

/-- the sum of the first k products of a row and a column -/
def dot (a b : Nat → Int) (i j : Nat) : Nat → Int
  | 0 => 0
  | k + 1 => dot a b i j k + a (3 * i + k) * b (3 * k + j)
def prodM (a b : Nat → Int) : Nat → Int := fun k => divS (dot a b (k / 3) (k % 3) 3) 65536
def mulM (a b : Nat → Int) : Nat → Int := if okM a ∧ okM b then prodM a b else fun _ => 0

theorem mul20 {x y : Int} (hx : -1048576 ≤ x ∧ x ≤ 1048576) (hy : -1048576 ≤ y ∧ y ≤ 1048576) : -1099511627776 ≤ x * y ∧ x * y ≤ 1099511627776 := by
  have h1 : (x * y).natAbs = x.natAbs * y.natAbs := Int.natAbs_mul x y
  have h2 : x.natAbs * y.natAbs ≤ 1048576 * 1048576 := Nat.mul_le_mul (by omega) (by omega)
  omega
theorem dot_bound {a b : Nat → Int} (ha : okM a) (hb : okM b) (i j : Nat) (hi : i < 3) (hj : j < 3) : ∀ k : Nat, k ≤ 3 → -(1099511627776 * (k : Int)) ≤ dot a b i j k ∧ dot a b i j k ≤ 1099511627776 * (k : Int)
  | 0, _ => by simp [dot]
  | k + 1, hk => by
    have ih := dot_bound ha hb i j hi hj k (by omega)
    have := mul20 (ha (3 * i + k) (by omega)) (hb (3 * k + j) (by omega))
    simp only [dot]
    omega
theorem codeM_ok {m : Nat → Int} (h : okM m) : codeM m = 0 := by unfold codeM; rw [if_pos h]
theorem codeM_bad {m : Nat → Int} (h : ¬ okM m) : codeM m = 2 := by unfold codeM; rw [if_neg h]

end Go.Proofs.Ytlpfepcmpccbeaa.Mx
/-
  Products of the reference, and its Check.
-/
namespace Go.Proofs.Ytlpfepcmpccbeaa.Mx
open Go.RowKit Go.Proofs.Ytlpfepcmpccbeaa.NM Go.Proofs.Ytlpfepcmpccbeaa.Spec Go.Proofs.YtlpfepcmpccbeaaW.PrintWords
set_option linter.unusedVariables false

set_option maxHeartbeats 1000000 in
theorem rcheck_any (m : Nat → Int) (w : World) :
    Calls Try.prog 80 #[.agg (arrN 9 m)] w fun e w' => e = .returned (.int .i64 (codeM m)) ∧ Below w.heap.size w w' := by
  have hh := holdsN_new w 23 9 m
  go_enter Try.func80, Try.ntmps80
  go_wp2_with fail
  go_loop [2, 3] (fun _ v6 => ∃ k : Nat, k ≤ 9 ∧ v6 = .int .i64 k ∧ Hid (∀ j, j < k → -1048576 ≤ m j ∧ m j ≤ 1048576)) (fun _ i => 9 - (intOf i).toNat)
  case atStart => exact ⟨0, by omega, rfl, fun j hj => absurd hj (by omega)⟩
  case round =>
    obtain ⟨k, hk, rfl, hrg⟩ := hrel
    by_cases hk9 : k < 9
    · have hc := hh.cell k hk9
      clear hh
      by_cases h1 : m k < -1048576
      · have hc : Hid (codeM m = 2) := by show _ = _; unfold codeM; rw [if_neg]; intro h; have := (h k hk9).1; omega
        go_wp2
        go_ret
        exact ⟨ret_int hc.out.symm, (Below.refl _ _).alloc (Nat.le_refl _) _⟩
      · by_cases h2 : 1048576 < m k
        · have hc : Hid (codeM m = 2) := by show _ = _; unfold codeM; rw [if_neg]; intro h; have := (h k hk9).2; omega
          go_wp2
          go_ret
          exact ⟨ret_int hc.out.symm, (Below.refl _ _).alloc (Nat.le_refl _) _⟩
        · have hrg' : Hid (∀ j, j < k + 1 → -1048576 ≤ m j ∧ m j ≤ 1048576) := by
            intro j hj
            by_cases he : j = k
            · subst he; omega
            · exact hrg.out j (by omega)
          go_wp2
          go_round
          case rel => exact ⟨k + 1, by omega, by go_num, hrg'⟩
          case measure => simp [intOf]; omega
    · obtain rfl : k = 9 := by omega
      have hc : Hid (codeM m = 0) := by show _ = _; unfold codeM; rw [if_pos]; exact hrg.out
      go_wp2
      go_ret
      exact ⟨ret_int hc.out.symm, (Below.refl _ _).alloc (Nat.le_refl _) _⟩

end Go.Proofs.Ytlpfepcmpccbeaa.Mx
/-
  Images of vectors: matrix.Apply and the reference's.
-/
namespace Go.Proofs.Ytlpfepcmpccbeaa.Mx
open Go.RowKit Go.Proofs.Ytlpfepcmpccbeaa.NM Go.Proofs.Ytlpfepcmpccbeaa.Spec Go.Proofs.YtlpfepcmpccbeaaW.PrintWords Go.Proofs.YtlpfepcmpccbeaaW.PrintMore
attribute [local go_sem] max2_int min2_int
set_option linter.unusedVariables false

/-- the vector, its elements within the limits -/
def clampV (v : Nat → Int) : Nat → Int := fun k => clampS (v k) (-1073741824) 1073741824
def imageM (m c : Nat → Int) : Nat → Int := fun i => divS (m (3 * i) * c 0 + m (3 * i + 1) * c 1 + m (3 * i + 2) * c 2) 65536
def applyM (m v : Nat → Int) : Nat → Int := if okM m then imageM m (clampV v) else fun _ => 0
theorem clampV_range (v : Nat → Int) (k : Nat) : -1073741824 ≤ clampV v k ∧ clampV v k ≤ 1073741824 := clampS_range _ (by omega)
theorem mul50 {x y : Int} (hx : -1048576 ≤ x ∧ x ≤ 1048576) (hy : -1073741824 ≤ y ∧ y ≤ 1073741824) : -1125899906842624 ≤ x * y ∧ x * y ≤ 1125899906842624 := by
  have h1 : (x * y).natAbs = x.natAbs * y.natAbs := Int.natAbs_mul x y
  have h2 : x.natAbs * y.natAbs ≤ 1048576 * 1073741824 := Nat.mul_le_mul (by omega) (by omega)
  omega
def Upto (k : Nat) (p f : Nat → Int) : Prop := ∀ j, j < k → p j = f j
theorem Upto.step {k : Nat} {p f : Nat → Int} (h : Upto k p f) : Upto (k + 1) (upd p k (f k)) f := by
  intro j hj
  unfold upd
  by_cases he : j = k
  · rw [if_pos he, he]
  · rw [if_neg he]; exact h j (by omega)
theorem Upto.arr {n : Nat} {p f : Nat → Int} (h : Upto n p f) : arrN n p = arrN n f := arrN_congr h

def dotV (m c : Nat → Int) (i : Nat) : Nat → Int
  | 0 => 0
  | k + 1 => dotV m c i k + m (3 * i + k) * c k
theorem dotV_bound {m v : Nat → Int} (h : okM m) (i : Nat) (hi : i < 3) : ∀ k : Nat, k ≤ 3 → -(1125899906842624 * (k : Int)) ≤ dotV m (clampV v) i k ∧ dotV m (clampV v) i k ≤ 1125899906842624 * (k : Int)
  | 0, _ => by simp [dotV]
  | k + 1, hk => by
    have ih := dotV_bound (v := v) h i hi k (by omega)
    have := mul50 (h (3 * i + k) (by omega)) (clampV_range v k)
    simp only [dotV]
    omega

set_option maxHeartbeats 2000000 in
theorem apply_bad (m v : Nat → Int) (w : World) (ha : ¬ okM m) :
    Calls Try.prog 69 #[.agg (arrN 9 m), .agg (arrN 3 v)] w fun e w' => e = .returned (.agg (arrN 3 (applyM m v))) ∧ Below w.heap.size w w' := by
  have HM : Hid (applyM m v = fun _ => 0) := by show _ = _; unfold applyM; rw [if_neg ha]
  have hc := codeM_bad ha
  go_enter Try.func69, Try.ntmps69
  go_upto_region 2 with fail
  rw [zero3]
  have h0 : holdsN ((((w.alloc (.cells (arrN 9 m) 23)).alloc (.cells (arrN 3 v) 47)).alloc (.cells (arrN 3 (fun _ => 0)) 47)).alloc (.cells (arrN 3 (fun _ => 0)) 47)) (w.heap.size) 23 9 m := (((holdsN_new w 23 9 m).alloc (.cells (arrN 3 v) 47)).alloc (.cells (arrN 3 (fun _ => 0)) 47)).alloc (.cells (arrN 3 (fun _ => 0)) 47)
  have h1 : holdsN ((((w.alloc (.cells (arrN 9 m) 23)).alloc (.cells (arrN 3 v) 47)).alloc (.cells (arrN 3 (fun _ => 0)) 47)).alloc (.cells (arrN 3 (fun _ => 0)) 47)) (w.heap.size + 1) 47 3 v := by
    have := ((holdsN_new (w.alloc (.cells (arrN 9 m) 23)) 47 3 v).alloc (.cells (arrN 3 (fun _ => 0)) 47)).alloc (.cells (arrN 3 (fun _ => 0)) 47)
    simpa using this
  have h2 : holdsN ((((w.alloc (.cells (arrN 9 m) 23)).alloc (.cells (arrN 3 v) 47)).alloc (.cells (arrN 3 (fun _ => 0)) 47)).alloc (.cells (arrN 3 (fun _ => 0)) 47)) (w.heap.size + 1 + 1) 47 3 (fun _ => 0) := by
    have := (holdsN_new ((w.alloc (.cells (arrN 9 m) 23)).alloc (.cells (arrN 3 v) 47)) 47 3 (fun _ => 0)).alloc (.cells (arrN 3 (fun _ => 0)) 47)
    simpa using this
  have h3 : holdsN ((((w.alloc (.cells (arrN 9 m) 23)).alloc (.cells (arrN 3 v) 47)).alloc (.cells (arrN 3 (fun _ => 0)) 47)).alloc (.cells (arrN 3 (fun _ => 0)) 47)) (w.heap.size + 1 + 1 + 1) 47 3 (fun _ => 0) := by
    have := holdsN_new (((w.alloc (.cells (arrN 9 m) 23)).alloc (.cells (arrN 3 v) 47)).alloc (.cells (arrN 3 (fun _ => 0)) 47)) 47 3 (fun _ => 0)
    simpa using this
  have hb : Below w.heap.size w ((((w.alloc (.cells (arrN 9 m) 23)).alloc (.cells (arrN 3 v) 47)).alloc (.cells (arrN 3 (fun _ => 0)) 47)).alloc (.cells (arrN 3 (fun _ => 0)) 47)) := ((((Below.refl _ _).alloc (Nat.le_refl _) _).alloc (by simp) _).alloc (by simp; omega) _).alloc (by simp; omega) _
  have hs : w.heap.size + 1 + 1 + 1 < ((((w.alloc (.cells (arrN 9 m) 23)).alloc (.cells (arrN 3 v) 47)).alloc (.cells (arrN 3 (fun _ => 0)) 47)).alloc (.cells (arrN 3 (fun _ => 0)) 47)).heap.size := by simp
  generalize ((((w.alloc (.cells (arrN 9 m) 23)).alloc (.cells (arrN 3 v) 47)).alloc (.cells (arrN 3 (fun _ => 0)) 47)).alloc (.cells (arrN 3 (fun _ => 0)) 47)) = wc at *
  generalize hB : w.heap.size = B at *
  have HB := Lib.hid hB
  clear hB
  go_wp2_with (refine wpList_load_arr rfl 23 (.tmp 2) rfl rfl h0 Try.underlying23 hi9 ?_)
  refine (check_any m _).mono ?_; rintro e w1 ⟨rfl, b1⟩
  have G2 := Lib.hid (h2.kept b1 (by omega))
  have G3 := Lib.hid (h3.kept b1 (by omega))
  have GB := hb.trans (b1.mono (by omega))
  clear h0 h1 h2 h3 hb hs b1
  go_wp2_with (first
    | (refine wpList_load_arr rfl 47 (.tmp 5) rfl rfl G3.out Try.underlying47 hi3 ?_)
    | (refine wpList_store_arr rfl 47 (.tmp 4) (.tmp 11) rfl rfl rfl G2.out (arrN_size _ _) hi3 ?_))
  refine bodyPost_ret (v := .agg (arrN 3 fun _ => 0)) (results_cell_row rfl _ _ (B + 1 + 1) 47 _ _ _ rfl (holdsN_row G2.out _) Try.underlying47 rfl (by rw [arrN_size]; exact hi3)) rfl ?_
  exact ⟨by rw [HM.out], by rw [HB.out]; exact below_setRow GB (by omega) _⟩

set_option maxHeartbeats 2000000 in
theorem apply_ok (m v : Nat → Int) (w : World) (ha : okM m) :
    Calls Try.prog 69 #[.agg (arrN 9 m), .agg (arrN 3 v)] w fun e w' => e = .returned (.agg (arrN 3 (applyM m v))) ∧ Below w.heap.size w w' := by
  have HM : Hid (applyM m v = imageM m (clampV v)) := by show _ = _; unfold applyM; rw [if_pos ha]
  have hc := codeM_ok ha
  have HA := Lib.hid ha
  clear ha
  go_enter Try.func69, Try.ntmps69
  go_upto_region 2 with fail
  rw [zero3]
  have h0 : holdsN ((((w.alloc (.cells (arrN 9 m) 23)).alloc (.cells (arrN 3 v) 47)).alloc (.cells (arrN 3 (fun _ => 0)) 47)).alloc (.cells (arrN 3 (fun _ => 0)) 47)) (w.heap.size) 23 9 m := (((holdsN_new w 23 9 m).alloc (.cells (arrN 3 v) 47)).alloc (.cells (arrN 3 (fun _ => 0)) 47)).alloc (.cells (arrN 3 (fun _ => 0)) 47)
  have h1 : holdsN ((((w.alloc (.cells (arrN 9 m) 23)).alloc (.cells (arrN 3 v) 47)).alloc (.cells (arrN 3 (fun _ => 0)) 47)).alloc (.cells (arrN 3 (fun _ => 0)) 47)) (w.heap.size + 1) 47 3 v := by
    have := ((holdsN_new (w.alloc (.cells (arrN 9 m) 23)) 47 3 v).alloc (.cells (arrN 3 (fun _ => 0)) 47)).alloc (.cells (arrN 3 (fun _ => 0)) 47)
    simpa using this
  have h2 : holdsN ((((w.alloc (.cells (arrN 9 m) 23)).alloc (.cells (arrN 3 v) 47)).alloc (.cells (arrN 3 (fun _ => 0)) 47)).alloc (.cells (arrN 3 (fun _ => 0)) 47)) (w.heap.size + 1 + 1) 47 3 (fun _ => 0) := by
    have := (holdsN_new ((w.alloc (.cells (arrN 9 m) 23)).alloc (.cells (arrN 3 v) 47)) 47 3 (fun _ => 0)).alloc (.cells (arrN 3 (fun _ => 0)) 47)
    simpa using this
  have h3 : holdsN ((((w.alloc (.cells (arrN 9 m) 23)).alloc (.cells (arrN 3 v) 47)).alloc (.cells (arrN 3 (fun _ => 0)) 47)).alloc (.cells (arrN 3 (fun _ => 0)) 47)) (w.heap.size + 1 + 1 + 1) 47 3 (fun _ => 0) := by
    have := holdsN_new (((w.alloc (.cells (arrN 9 m) 23)).alloc (.cells (arrN 3 v) 47)).alloc (.cells (arrN 3 (fun _ => 0)) 47)) 47 3 (fun _ => 0)
    simpa using this
  have hb : Below w.heap.size w ((((w.alloc (.cells (arrN 9 m) 23)).alloc (.cells (arrN 3 v) 47)).alloc (.cells (arrN 3 (fun _ => 0)) 47)).alloc (.cells (arrN 3 (fun _ => 0)) 47)) := ((((Below.refl _ _).alloc (Nat.le_refl _) _).alloc (by simp) _).alloc (by simp; omega) _).alloc (by simp; omega) _
  have hs : w.heap.size + 1 + 1 + 1 < ((((w.alloc (.cells (arrN 9 m) 23)).alloc (.cells (arrN 3 v) 47)).alloc (.cells (arrN 3 (fun _ => 0)) 47)).alloc (.cells (arrN 3 (fun _ => 0)) 47)).heap.size := by simp
  generalize ((((w.alloc (.cells (arrN 9 m) 23)).alloc (.cells (arrN 3 v) 47)).alloc (.cells (arrN 3 (fun _ => 0)) 47)).alloc (.cells (arrN 3 (fun _ => 0)) 47)) = wc at *
  generalize hB : w.heap.size = B at *
  have HB := Lib.hid hB
  clear hB
  go_wp2_with (refine wpList_load_arr rfl 23 (.tmp 2) rfl rfl h0 Try.underlying23 hi9 ?_)
  refine (check_any m _).mono ?_; rintro e w1 ⟨rfl, b1⟩
  have g0 := h0.kept b1 (by omega)
  have g1 := h1.kept b1 (by omega)
  have g2 := h2.kept b1 (by omega)
  have g3 := h3.kept b1 (by omega)
  have gb := hb.trans (b1.mono (by omega))
  have gs := Nat.lt_of_lt_of_le hs b1.size
  clear h0 h1 h2 h3 hb hs b1
  go_wp2_with fail
  clear hc
  go_loopw [12] (fun v12 wr => ∃ (k : Nat) (q p : Nat → Int), k ≤ 3 ∧ v12 = .int .i64 k ∧ Hid (Upto k q (clampV v)) ∧ Hid (∀ j, k ≤ j → q j = v j) ∧ holdsN wr B 23 9 m ∧ holdsN wr (B + 1) 47 3 q ∧ holdsN wr (B + 1 + 1) 47 3 (fun _ => 0) ∧ holdsN wr (B + 1 + 1 + 1) 47 3 p ∧ Below B w wr ∧ B + 1 + 1 + 1 < wr.heap.size) (fun v _ => 3 - (intOf v).toNat)
  case atStart => exact ⟨0, v, fun _ => 0, by omega, rfl, fun j hj => absurd hj (by omega), fun j _ => rfl, g0, g1, g2, g3, gb, gs⟩
  case round =>
    obtain ⟨k, q, p, hk, rfl, hq1, hq2, k0, k1, k2, k3, kb, ks⟩ := hrel
    clear g0 g1 g2 g3 gb gs
    by_cases hk3 : k < 3
    · have c1 := k1.cell k (by omega)
      rw [hq2.out k (by omega)] at c1
      have hcl := fun w => clamp_any (v k) (-1073741824) 1073741824 w
      have hq1' : Hid (Upto (k + 1) (upd q k (clampV v k)) (clampV v)) := hq1.out.step
      have hq2' : Hid (∀ j, k + 1 ≤ j → upd q k (clampV v k) j = v j) := by intro j hj; unfold upd; rw [if_neg (by omega)]; exact hq2.out j (by omega)
      have hcv : clampV v k = clampS (v k) (-1073741824) 1073741824 := rfl
      rw [hcv] at hq1' hq2'
      clear hcv
      generalize clampS (v k) (-1073741824) 1073741824 = c at *
      generalize v k = x at *
      have HCL := Lib.hid hcl
      clear hcl
      go_wp2_with fail
      refine (HCL.out _).mono ?_; rintro e w2 ⟨rfl, b2⟩
      have m0 := k0.kept b2 (by omega)
      have m1 := k1.kept b2 (by omega)
      have m2 := k2.kept b2 (by omega)
      have m3 := k3.kept b2 (by omega)
      have mb := kb.trans (b2.mono (by omega))
      have ms := Nat.lt_of_lt_of_le ks b2.size
      have c2 := m1.cell k (by omega)
      have c3 := m1.free k
      clear b2
      go_wp2
      go_roundw
      case rel => exact ⟨k + 1, upd q k c, p, by omega, by go_num, hq1', hq2', m0.setOther (by omega) _, m1.set k c, m2.setOther (by omega) _, m3.setOther (by omega) _, mb.setCell (by show B ≤ B + 1; omega) _, by simpa [World.setCell] using ms⟩
      case measure => simp [intOf]; omega
    · obtain rfl : k = 3 := by omega
      clear hq2
      have hqe := hq1.out.arr
      have k1' : holdsN wr (B + 1) 47 3 (clampV v) := by unfold holdsN at *; rw [k1, hqe]
      clear k1 hqe hq1
      obtain ⟨wo, hwo⟩ : ∃ wo : World, wo = wr := ⟨_, rfl⟩
      subst hwo
      go_wp2_with fail
      rw [show ((3 : Nat) : Int) = (3 : Int) from rfl]
      go_loopw [22] (fun v22 wr => ∃ (i : Nat) (p : Nat → Int), i ≤ 3 ∧ v22 = .int .i64 i ∧ Hid (Upto i p (imageM m (clampV v))) ∧ holdsN wr B 23 9 m ∧ holdsN wr (B + 1) 47 3 (clampV v) ∧ holdsN wr (B + 1 + 1) 47 3 (fun _ => 0) ∧ holdsN wr (B + 1 + 1 + 1) 47 3 p ∧ Below B w wr ∧ B + 1 + 1 + 1 < wr.heap.size) (fun v _ => 3 - (intOf v).toNat)
      case atStart => exact ⟨0, p, by omega, rfl, fun j hj => absurd hj (by omega), k0, k1', k2, k3, kb, ks⟩
      case round =>
        obtain ⟨i, p, hi, rfl, hd, k0, k1, k2, k3, kb, ks⟩ := hrel
        by_cases hi3 : i < 3
        · have c0 := k0.cell (3 * i) (by omega)
          have c1 := k0.cell (3 * i + 1) (by omega)
          have c2 := k0.cell (3 * i + 2) (by omega)
          have d0 := k1.cell 0 (by omega)
          have d1 := k1.cell 1 (by omega)
          have d2 := k1.cell 2 (by omega)
          have t0 := k3.cell i (by omega)
          have t1 := k3.free i
          have hd' : Hid (Upto (i + 1) (upd p i (imageM m (clampV v) i)) (imageM m (clampV v))) := hd.out.step
          have p0 := mul50 (HA.out (3 * i) (by omega)) (clampV_range v 0)
          have p1 := mul50 (HA.out (3 * i + 1) (by omega)) (clampV_range v 1)
          have p2 := mul50 (HA.out (3 * i + 2) (by omega)) (clampV_range v 2)
          have hS : imageM m (clampV v) i = divS (m (3 * i) * clampV v 0 + m (3 * i + 1) * clampV v 1 + m (3 * i + 2) * clampV v 2) 65536 := rfl
          rw [hS] at hd'
          clear hS
          generalize m (3 * i) = x0 at *
          generalize m (3 * i + 1) = x1 at *
          generalize m (3 * i + 2) = x2 at *
          generalize clampV v 0 = y0 at *
          generalize clampV v 1 = y1 at *
          generalize clampV v 2 = y2 at *
          have hdv := fun w => div_any (x0 * y0 + x1 * y1 + x2 * y2) 65536 w (by unfold I64; omega) (by unfold I64; omega)
          have HDV := Lib.hid hdv
          clear hdv
          generalize divS (x0 * y0 + x1 * y1 + x2 * y2) 65536 = dv at *
          obtain ⟨p00, p01⟩ := p0
          obtain ⟨p10, p11⟩ := p1
          obtain ⟨p20, p21⟩ := p2
          go_wp2_with fail
          have w1 : IntKind.i64.wrap (3 * (i : Int)) = 3 * (i : Int) := IntWalk.i64_in _ (by omega)
          have w2 : IntKind.i64.wrap (3 * (i : Int) + 1) = 3 * (i : Int) + 1 := IntWalk.i64_in _ (by omega)
          have w3 : IntKind.i64.wrap (3 * (i : Int) + 2) = 3 * (i : Int) + 2 := IntWalk.i64_in _ (by omega)
          have w7 : IntKind.i64.wrap (x0 * y0) = x0 * y0 := IntWalk.i64_in _ (by omega)
          have w8 : IntKind.i64.wrap (x1 * y1) = x1 * y1 := IntWalk.i64_in _ (by omega)
          have w9 : IntKind.i64.wrap (x2 * y2) = x2 * y2 := IntWalk.i64_in _ (by omega)
          have w10 : IntKind.i64.wrap (x0 * y0 + x1 * y1) = x0 * y0 + x1 * y1 := IntWalk.i64_in _ (by omega)
          have w11 : IntKind.i64.wrap (x0 * y0 + x1 * y1 + x2 * y2) = x0 * y0 + x1 * y1 + x2 * y2 := IntWalk.i64_in _ (by omega)
          have x0a : (0 : Int) ≤ 3 * (i : Int) := by omega
          have x0b : 3 * (i : Int) < 9 := by omega
          have x0c : (3 * (i : Int)).toNat = 3 * i := by omega
          have x1a : (0 : Int) ≤ 3 * (i : Int) + 1 := by omega
          have x1b : 3 * (i : Int) + 1 < 9 := by omega
          have x1c : (3 * (i : Int) + 1).toNat = 3 * i + 1 := by omega
          have x2a : (0 : Int) ≤ 3 * (i : Int) + 2 := by omega
          have x2b : 3 * (i : Int) + 2 < 9 := by omega
          have x2c : (3 * (i : Int) + 2).toNat = 3 * i + 2 := by omega
          have x3a : (0 : Int) ≤ (i : Int) := by omega
          have x3b : (i : Int) < 3 := by omega
          have x3c : ((i : Int)).toNat = i := by omega
          go_region_held3 (fun w' => w'.cell? ⟨B, 3 * i, none⟩ = some (.int .i64 x0) ∧ w'.cell? ⟨B, 3 * i + 1, none⟩ = some (.int .i64 x1) ∧ w'.cell? ⟨B, 3 * i + 2, none⟩ = some (.int .i64 x2) ∧ w'.cell? ⟨B + 1, 0, none⟩ = some (.int .i64 y0) ∧ w'.cell? ⟨B + 1, 1, none⟩ = some (.int .i64 y1) ∧ w'.cell? ⟨B + 1, 2, none⟩ = some (.int .i64 y2)) (first | go_keep | (refine ⟨?_, ?_, ?_, ?_, ?_, ?_⟩ <;> (rw [World.cell?_setCell_other _ _ _ _ (by intro h; injection h with h; omega)]; simp only [World.cell?_drewN]; assumption))) (first | (go_at_call 92; refine (HDV.out _).mono ?_; rintro e w' ⟨rfl, ⟨nd, rfl⟩⟩))
          clear w1 w2 w3 w7 w8 w9 w10 w11 x0a x0b x0c x1a x1b x1c x2a x2b x2c x3a x3b x3c
          go_wp2
          go_roundw
          case rel => exact ⟨i + 1, _, by omega, by go_num, hd', (k0.drewN _).setOther (by omega) _, (k1.drewN _).setOther (by omega) _, (k2.drewN _).setOther (by omega) _, (k3.drewN _).set i dv, (below_drewN kb _).setCell (by show B ≤ B + 1 + 1 + 1; omega) _, by simpa [World.setCell] using ks⟩
          case measure => simp [intOf]; omega
        · obtain rfl : i = 3 := by omega
          have hp := Lib.hid hd.out.arr
          have G2 := Lib.hid k2
          go_wp2_with (first
            | (refine wpList_load_arr rfl 47 (.tmp 5) rfl rfl k3 Try.underlying47 Mx.hi3 ?_)
            | (refine wpList_store_arr rfl 47 (.tmp 4) (.tmp 54) rfl rfl rfl G2.out (arrN_size _ _) Mx.hi3 ?_))
          refine bodyPost_ret (v := .agg (arrN 3 p)) (results_cell_row rfl _ _ (B + 1 + 1) 47 _ _ _ rfl (holdsN_row G2.out p) Try.underlying47 rfl (by rw [arrN_size]; exact Mx.hi3)) rfl ?_
          exact ⟨by rw [HM.out, hp.out], by rw [HB.out]; exact below_setRow kb (by omega) _⟩
theorem apply_any (m v : Nat → Int) (w : World) :
    Calls Try.prog 69 #[.agg (arrN 9 m), .agg (arrN 3 v)] w fun e w' => e = .returned (.agg (arrN 3 (applyM m v))) ∧ Below w.heap.size w w' := by
  by_cases h : okM m
  · exact apply_ok m v w h
  · exact apply_bad m v w h
end Go.Proofs.Ytlpfepcmpccbeaa.Mx
/-
  Determinants: matrix.minor, exact and Det.
-/
namespace Go.Proofs.Ytlpfepcmpccbeaa.Mx
open Go.RowKit Go.Proofs.Ytlpfepcmpccbeaa.NM Go.Proofs.Ytlpfepcmpccbeaa.Spec Go.Proofs.YtlpfepcmpccbeaaW.PrintWords Go.Proofs.YtlpfepcmpccbeaaW.PrintMore
set_option linter.unusedVariables false

/-- the cofactor of the place (r, c) -/
def minorS (m : Nat → Int) (r c : Nat) : Int := m (3 * ((r + 1) % 3) + (c + 1) % 3) * m (3 * ((r + 2) % 3) + (c + 2) % 3) - m (3 * ((r + 1) % 3) + (c + 2) % 3) * m (3 * ((r + 2) % 3) + (c + 1) % 3)
def exactS (m : Nat → Int) : Int := m 0 * minorS m 0 0 + m 1 * minorS m 0 1 + m 2 * minorS m 0 2
def detS (m : Nat → Int) : Int := if okM m then divS (exactS m) 4294967296 else 0
theorem minorS_bound {m : Nat → Int} (h : okM m) (r c : Nat) : -2199023255552 ≤ minorS m r c ∧ minorS m r c ≤ 2199023255552 := by
  have h1 := mul20 (h (3 * ((r + 1) % 3) + (c + 1) % 3) (by omega)) (h (3 * ((r + 2) % 3) + (c + 2) % 3) (by omega))
  have h2 := mul20 (h (3 * ((r + 1) % 3) + (c + 2) % 3) (by omega)) (h (3 * ((r + 2) % 3) + (c + 1) % 3) (by omega))
  unfold minorS
  omega
theorem mul61 {x y : Int} (hx : -1048576 ≤ x ∧ x ≤ 1048576) (hy : -2199023255552 ≤ y ∧ y ≤ 2199023255552) : -2305843009213693952 ≤ x * y ∧ x * y ≤ 2305843009213693952 := by
  have h1 : (x * y).natAbs = x.natAbs * y.natAbs := Int.natAbs_mul x y
  have h2 : x.natAbs * y.natAbs ≤ 1048576 * 2199023255552 := Nat.mul_le_mul (by omega) (by omega)
  omega
theorem exactS_bound {m : Nat → Int} (h : okM m) : -6917529027641081856 ≤ exactS m ∧ exactS m ≤ 6917529027641081856 := by
  have h0 := mul61 (h 0 (by omega)) (minorS_bound h 0 0)
  have h1 := mul61 (h 1 (by omega)) (minorS_bound h 0 1)
  have h2 := mul61 (h 2 (by omega)) (minorS_bound h 0 2)
  unfold exactS
  omega

set_option maxHeartbeats 1000000 in
theorem minor_any (m : Nat → Int) (r c : Nat) (w : World) (h : okM m) (hr : r < 3) (hc : c < 3) :
    Calls Try.prog 78 #[.agg (arrN 9 m), .int .i64 (r : Int), .int .i64 (c : Int)] w fun e w' => e = .returned (.int .i64 (minorS m r c)) ∧ Below w.heap.size w w' := by
  obtain ⟨r1, hr1⟩ : ∃ r1, r1 = (r + 1) % 3 := ⟨_, rfl⟩
  obtain ⟨r2, hr2⟩ : ∃ r2, r2 = (r + 2) % 3 := ⟨_, rfl⟩
  obtain ⟨c1, hc1⟩ : ∃ c1, c1 = (c + 1) % 3 := ⟨_, rfl⟩
  obtain ⟨c2, hc2⟩ : ∃ c2, c2 = (c + 2) % 3 := ⟨_, rfl⟩
  have e1 : ((r : Int) + 1) % 3 = (r1 : Int) := by omega
  have e2 : ((r : Int) + 2) % 3 = (r2 : Int) := by omega
  have e3 : ((c : Int) + 1) % 3 = (c1 : Int) := by omega
  have e4 : ((c : Int) + 2) % 3 = (c2 : Int) := by omega
  have hS : minorS m r c = m (3 * r1 + c1) * m (3 * r2 + c2) - m (3 * r1 + c2) * m (3 * r2 + c1) := by unfold minorS; rw [← hr1, ← hr2, ← hc1, ← hc2]
  have l1 : r1 < 3 := by omega
  have l2 : r2 < 3 := by omega
  have l3 : c1 < 3 := by omega
  have l4 : c2 < 3 := by omega
  clear hr1 hr2 hc1 hc2
  have hh := holdsN_new w 23 9 m
  have d1 := hh.cell (3 * r1 + c1) (by omega)
  have d2 := hh.cell (3 * r2 + c2) (by omega)
  have d3 := hh.cell (3 * r1 + c2) (by omega)
  have d4 := hh.cell (3 * r2 + c1) (by omega)
  obtain ⟨p1, p2⟩ := mul20 (h (3 * r1 + c1) (by omega)) (h (3 * r2 + c2) (by omega))
  obtain ⟨p3, p4⟩ := mul20 (h (3 * r1 + c2) (by omega)) (h (3 * r2 + c1) (by omega))
  have HS := Lib.hid hS
  clear hS hh h
  generalize m (3 * r1 + c1) = x1 at *
  generalize m (3 * r2 + c2) = x2 at *
  generalize m (3 * r1 + c2) = x3 at *
  generalize m (3 * r2 + c1) = x4 at *
  go_enter Try.func78, Try.ntmps78
  go_wp2_with fail
  go_quiet (fail)
  go_wp2
  go_ret
  exact ⟨ret_int HS.out.symm, below_drewN ((Below.refl _ _).alloc (Nat.le_refl _) _) _⟩

theorem wpQuiet_val {P : Program} {ops : Array Oper} {C : World → Prop} {Q : Act → Prop} {a : Act} {o : Oper} {rest : List Oper} {v : Value} (hw : Region.wanted o (yielded ops a.tmps) = true) (hv : ∀ w, C w → o.quietAt P a C w v)
    (h : wpQuiet P ops C Q rest (a.put o.dst v)) : wpQuiet P ops C Q (o :: rest) a :=
  wpQuiet_step fun K hK => by rw [if_pos hw]; exact ⟨v, hv, hK _ h⟩
theorem run_loadAt_arr {P : Program} (ty : TypeId) {w : World} {g t n : Nat} {m : Nat → Int} (h : holdsN w g t n m) {k : Nat} {e : TypeId} (hu : P.underlying ty = some (.array k e)) (hi : (P.info? ty).map (·.size) = some n) :
    (Instr.loadAt ty (.pointer (some ⟨g, 0, none⟩))).run P w = .ok (.agg (arrN n m)) w := by
  have := run_loadVar_row (P := P) w g t ty (arrN n m) (0, 0) _ h hu rfl (by rw [arrN_size]; exact hi)
  simp [Instr.loadAt, Instr.sureAddr, this]

theorem quietAt_load {P : Program} {o : Oper} {a : Act} {C : World → Prop} {w : World} {v : Value} (ty : TypeId) (x : Operand) (ho : o.op = .load ty x) (hr : (Instr.loadAt ty (a.eval x)).run P w = .ok v w) : o.quietAt P a C w v := by
  unfold Oper.quietAt execOp
  simp only [ho, Sem.run_bind, hr, Result.andThen_ok, Sem.run_pure]
  exact ⟨rfl, rfl⟩
theorem minor_num (m : Nat → Int) (c : Nat) (ci : Int) (hci : ci = c) (h : okM m) (hc : c < 3) (w : World) :
    Calls Try.prog 78 #[.agg (arrN 9 m), .int .i64 0, .int .i64 ci] w fun e w' => e = .returned (.int .i64 (minorS m 0 c)) ∧ Below w.heap.size w w' := by
  subst hci
  exact minor_any m 0 c w h (by omega) hc

set_option maxRecDepth 20000 in
set_option maxHeartbeats 4000000 in
theorem exact_any (m : Nat → Int) (w : World) (h : okM m) :
    Calls Try.prog 76 #[.agg (arrN 9 m)] w fun e w' => e = .returned (.int .i64 (exactS m)) ∧ Below w.heap.size w w' := by
  have hh := holdsN_new w 23 9 m
  have hb : Below w.heap.size w (w.alloc (.cells (arrN 9 m) 23)) := (Below.refl _ _).alloc (Nat.le_refl _) _
  have M0 := Lib.hid (minor_num m 0 0 rfl h (by omega))
  have M1 := Lib.hid (minor_num m 1 1 rfl h (by omega))
  have M2 := Lib.hid (minor_num m 2 2 rfl h (by omega))
  have hE : exactS m = m 0 * minorS m 0 0 + m 1 * minorS m 0 1 + m 2 * minorS m 0 2 := rfl
  have p0 := mul61 (h 0 (by omega)) (minorS_bound h 0 0)
  have p1 := mul61 (h 1 (by omega)) (minorS_bound h 0 1)
  have p2 := mul61 (h 2 (by omega)) (minorS_bound h 0 2)
  have HE := Lib.hid hE
  clear hE h
  have x0 := IntWalk.i64_in (m 0 * minorS m 0 0) (by omega)
  have x1 := IntWalk.i64_in (m 1 * minorS m 0 1) (by omega)
  have x2 := IntWalk.i64_in (m 2 * minorS m 0 2) (by omega)
  have x3 := IntWalk.i64_in (m 0 * minorS m 0 0 + m 1 * minorS m 0 1) (by omega)
  have x4 := IntWalk.i64_in (m 0 * minorS m 0 0 + m 1 * minorS m 0 1 + m 2 * minorS m 0 2) (by omega)
  clear p0 p1 p2
  generalize hB : w.heap.size = B at *
  have HB := Lib.hid hB
  go_enter Try.func76, Try.ntmps76
  go_upto_region 1 with fail
  clear hB
  generalize w.alloc (.cells (arrN 9 m) 23) = wc at *
  go_cut [2] (fun s2 wx => s2 = .int .i64 (exactS m) ∧ Below B w wx)
  case first =>
    refine wp_region_quiet (C := fun w' => Below wc.heap.size wc w' ∧ holdsN w' B 23 9 m) (by kernel_rfl) (by kernel_rfl) ⟨(Below.refl _ _).drew, hh⟩ ?_
    refine wpQuiet_val rfl (v := .pointer (some ⟨B, 0, none⟩)) (fun w hw => by unfold Oper.quietAt; go_simp) ?_
    (try simp only [Act.put, List.setIfInBounds_toArray, List.set_cons_zero, List.set_cons_succ])
    refine wpQuiet_val rfl (v := .int .i64 (m 0)) (fun w hw => by have hc := (hw.2.cell 0 (by omega)); unfold Oper.quietAt; go_simp) ?_
    (try simp only [Act.put, List.setIfInBounds_toArray, List.set_cons_zero, List.set_cons_succ])
    refine wpQuiet_val rfl (v := .agg (arrN 9 m)) (fun w hw => quietAt_load 23 _ rfl (run_loadAt_arr (P := Try.prog) 23 hw.2 Try.underlying23 hi9)) ?_
    refine wpQuiet_val rfl (v := .int .i64 (minorS m 0 0)) (fun w hw => by unfold Oper.quietAt; go_simp; exact (M0.out w).mono fun e w' h => ⟨h.1, ⟨hw.1.trans (h.2.mono hw.1.size), hw.2.kept h.2 hw.2.lt⟩⟩) ?_
    (try simp only [Act.put, List.setIfInBounds_toArray, List.set_cons_zero, List.set_cons_succ])
    refine wpQuiet_val rfl (v := .int .i64 (m 0 * minorS m 0 0)) (fun w hw => by unfold Oper.quietAt; go_simp) ?_
    (try simp only [Act.put, List.setIfInBounds_toArray, List.set_cons_zero, List.set_cons_succ])
    refine wpQuiet_val rfl (v := .pointer (some ⟨B, 1, none⟩)) (fun w hw => by unfold Oper.quietAt; go_simp) ?_
    (try simp only [Act.put, List.setIfInBounds_toArray, List.set_cons_zero, List.set_cons_succ])
    refine wpQuiet_val rfl (v := .int .i64 (m 1)) (fun w hw => by have hc := (hw.2.cell 1 (by omega)); unfold Oper.quietAt; go_simp) ?_
    (try simp only [Act.put, List.setIfInBounds_toArray, List.set_cons_zero, List.set_cons_succ])
    refine wpQuiet_val rfl (v := .agg (arrN 9 m)) (fun w hw => quietAt_load 23 _ rfl (run_loadAt_arr (P := Try.prog) 23 hw.2 Try.underlying23 hi9)) ?_
    refine wpQuiet_val rfl (v := .int .i64 (minorS m 0 1)) (fun w hw => by unfold Oper.quietAt; go_simp; exact (M1.out w).mono fun e w' h => ⟨h.1, ⟨hw.1.trans (h.2.mono hw.1.size), hw.2.kept h.2 hw.2.lt⟩⟩) ?_
    (try simp only [Act.put, List.setIfInBounds_toArray, List.set_cons_zero, List.set_cons_succ])
    refine wpQuiet_val rfl (v := .int .i64 (m 1 * minorS m 0 1)) (fun w hw => by unfold Oper.quietAt; go_simp) ?_
    (try simp only [Act.put, List.setIfInBounds_toArray, List.set_cons_zero, List.set_cons_succ])
    refine wpQuiet_val rfl (v := .int .i64 (m 0 * minorS m 0 0 + m 1 * minorS m 0 1)) (fun w hw => by unfold Oper.quietAt; go_simp) ?_
    (try simp only [Act.put, List.setIfInBounds_toArray, List.set_cons_zero, List.set_cons_succ])
    refine wpQuiet_val rfl (v := .pointer (some ⟨B, 2, none⟩)) (fun w hw => by unfold Oper.quietAt; go_simp) ?_
    (try simp only [Act.put, List.setIfInBounds_toArray, List.set_cons_zero, List.set_cons_succ])
    refine wpQuiet_val rfl (v := .int .i64 (m 2)) (fun w hw => by have hc := (hw.2.cell 2 (by omega)); unfold Oper.quietAt; go_simp) ?_
    (try simp only [Act.put, List.setIfInBounds_toArray, List.set_cons_zero, List.set_cons_succ])
    refine wpQuiet_val rfl (v := .agg (arrN 9 m)) (fun w hw => quietAt_load 23 _ rfl (run_loadAt_arr (P := Try.prog) 23 hw.2 Try.underlying23 hi9)) ?_
    refine wpQuiet_val rfl (v := .int .i64 (minorS m 0 2)) (fun w hw => by unfold Oper.quietAt; go_simp; exact (M2.out w).mono fun e w' h => ⟨h.1, ⟨hw.1.trans (h.2.mono hw.1.size), hw.2.kept h.2 hw.2.lt⟩⟩) ?_
    (try simp only [Act.put, List.setIfInBounds_toArray, List.set_cons_zero, List.set_cons_succ])
    refine wpQuiet_val rfl (v := .int .i64 (m 2 * minorS m 0 2)) (fun w hw => by unfold Oper.quietAt; go_simp) ?_
    (try simp only [Act.put, List.setIfInBounds_toArray, List.set_cons_zero, List.set_cons_succ])
    refine wpQuiet_val rfl (v := .int .i64 (m 0 * minorS m 0 0 + m 1 * minorS m 0 1 + m 2 * minorS m 0 2)) (fun w hw => by unfold Oper.quietAt; go_simp) ?_
    (try simp only [Act.put, List.setIfInBounds_toArray, List.set_cons_zero, List.set_cons_succ])
    refine wpQuiet_val rfl (v := .int .i64 (m 0 * minorS m 0 0 + m 1 * minorS m 0 1 + m 2 * minorS m 0 2)) (fun w hw => by unfold Oper.quietAt; go_simp) ?_
    (try simp only [Act.put, List.setIfInBounds_toArray, List.set_cons_zero, List.set_cons_succ])
    refine wpQuiet_nil ?_
    intro w' hw'
    rename_i J K' hJ hK
    refine hK _ _ ?_
    go_meet
    case rel => exact ⟨by rw [HE.out], hb.trans (hw'.1.mono (by rw [← HB.out]; exact hb.size))⟩
  case rest =>
    obtain ⟨rfl, hbe⟩ := hcut
    go_wp2
    go_ret
    exact ⟨rfl, hbe⟩

end Go.Proofs.Ytlpfepcmpccbeaa.Mx
/-
  Inverses: matrix.Inverse.
-/
namespace Go.Proofs.Ytlpfepcmpccbeaa.Mx
open Go.RowKit Go.Proofs.Ytlpfepcmpccbeaa.NM Go.Proofs.Ytlpfepcmpccbeaa.Spec Go.Proofs.YtlpfepcmpccbeaaW.PrintWords Go.Proofs.YtlpfepcmpccbeaaW.PrintMore
set_option linter.unusedVariables false

def invEl (m : Nat → Int) (i j : Nat) : Int := ratioS (minorS m j i * 65536) (exactS m)
def invIn (m : Nat → Int) : Prop := ∀ i, i < 3 → ∀ j, j < 3 → -1048576 ≤ invEl m i j ∧ invEl m i j ≤ 1048576
instance (m : Nat → Int) : Decidable (invIn m) := by unfold invIn; exact Nat.decidableBallLT 3 _
/-- the error of an inverse: OK, out of range, singular -/
def invCode (m : Nat → Int) : Int := if okM m then (if exactS m = 0 then 17 else if invIn m then 0 else 17) else 2
def invV (m : Nat → Int) : Nat → Int := if invCode m = 0 then fun k => invEl m (k / 3) (k % 3) else fun _ => 0
theorem invV_zero {m : Nat → Int} (h : invCode m ≠ 0) : invV m = fun _ => 0 := by unfold invV; rw [if_neg h]

theorem results_arr_tmp {P : Program} {fn : Func} {p u : Tmp} {ty : TypeId} (h : fn.results = #[.cell p ty, .tmp u]) (tmps : Array Value) (w : World) {g t n : Nat} {m : Nat → Int} (hp : tmps.getD p undef = .pointer (some ⟨g, 0, none⟩)) {v : Value} (hv : tmps.getD u undef = v)
    (hh : holdsN w g t n m) {k : Nat} {e : TypeId} (hu : P.underlying ty = some (.array k e)) (hi : (P.info? ty).map (·.size) = some n) : (results fn tmps).run P w = .ok (.tuple #[.agg (arrN n m), v]) w := by
  subst hv
  rw [results_cell_tmp h, hp]
  have := run_loadVar_row (P := P) w g t ty (arrN n m) (0, 0) _ hh hu rfl (by rw [arrN_size]; exact hi)
  simp [asAddr, this, Result.andThen]

set_option maxHeartbeats 1000000 in
theorem inverse_bad (m : Nat → Int) (w : World) (h : ¬ okM m) :
    Calls Try.prog 51 #[.agg (arrN 9 m)] w fun e w' => e = .returned (.tuple #[.agg (arrN 9 (invV m)), .int .i64 (invCode m)]) ∧ Below w.heap.size w w' := by
  have hC : invCode m = 2 := by unfold invCode; rw [if_neg h]
  have HV := Lib.hid (invV_zero (m := m) (by rw [hC]; decide))
  have HC := Lib.hid hC
  clear hC
  have hc := codeM_bad h
  go_enter Try.func51, Try.ntmps51
  go_upto_region 1 with fail
  rw [zero9]
  have h0 : holdsN ((w.alloc (.cells (arrN 9 m) 23)).alloc (.cells (arrN 9 (fun _ => 0)) 23)) (w.heap.size) 23 9 m := (holdsN_new w 23 9 m).alloc (.cells (arrN 9 (fun _ => 0)) 23)
  have h1 : holdsN ((w.alloc (.cells (arrN 9 m) 23)).alloc (.cells (arrN 9 (fun _ => 0)) 23)) (w.heap.size + 1) 23 9 (fun _ => 0) := by
    have := holdsN_new (w.alloc (.cells (arrN 9 m) 23)) 23 9 (fun _ => 0)
    simpa using this
  have hb : Below w.heap.size w ((w.alloc (.cells (arrN 9 m) 23)).alloc (.cells (arrN 9 (fun _ => 0)) 23)) := ((Below.refl _ _).alloc (Nat.le_refl _) _).alloc (by simp) _
  have hs : w.heap.size + 1 < ((w.alloc (.cells (arrN 9 m) 23)).alloc (.cells (arrN 9 (fun _ => 0)) 23)).heap.size := by simp
  generalize ((w.alloc (.cells (arrN 9 m) 23)).alloc (.cells (arrN 9 (fun _ => 0)) 23)) = wc at *
  generalize hB : w.heap.size = B at *
  have HB := Lib.hid hB
  clear hB
  go_wp2_with (refine wpList_load_arr rfl 23 (.tmp 1) rfl rfl h0 Try.underlying23 hi9 ?_)
  refine (check_any m _).mono ?_; rintro e w1 ⟨rfl, b1⟩
  have g0 := h0.kept b1 (by omega)
  have g1 := h1.kept b1 (by omega)
  have gb := hb.trans (b1.mono (by omega))
  have gs := Nat.lt_of_lt_of_le hs b1.size
  clear h0 h1 hb hs b1
  have G1 := Lib.hid g1
  clear g1
  go_wp2_with (first
    | (refine wpList_build_as rfl 23 _ rfl (arrN 9 fun _ => 0) (by kernel_rfl) ?_)
    | (refine wpList_store_arr rfl 23 (.tmp 2) (.tmp 14) rfl rfl rfl G1.out (arrN_size _ _) hi9 ?_))
  refine bodyPost_ret (v := .tuple #[.agg (arrN 9 fun _ => 0), .int .i64 2]) (results_arr_tmp rfl _ _ rfl rfl (holdsN_row G1.out _) Try.underlying23 hi9) rfl ?_
  exact ⟨by rw [HV.out, HC.out], by rw [HB.out]; exact below_setRow gb (by omega) _⟩

set_option maxHeartbeats 1000000 in
theorem inverse_zero (m : Nat → Int) (w : World) (h : okM m) (hd : exactS m = 0) :
    Calls Try.prog 51 #[.agg (arrN 9 m)] w fun e w' => e = .returned (.tuple #[.agg (arrN 9 (invV m)), .int .i64 (invCode m)]) ∧ Below w.heap.size w w' := by
  have hC : invCode m = 17 := by unfold invCode; rw [if_pos h, if_pos hd]
  have HV := Lib.hid (invV_zero (m := m) (by rw [hC]; decide))
  have HC := Lib.hid hC
  clear hC
  have hc := codeM_ok h
  have hX := fun w => exact_any m w h
  rw [hd] at hX
  have HX := Lib.hid hX
  clear hX hd h
  go_enter Try.func51, Try.ntmps51
  go_upto_region 1 with fail
  rw [zero9]
  have h0 : holdsN ((w.alloc (.cells (arrN 9 m) 23)).alloc (.cells (arrN 9 (fun _ => 0)) 23)) (w.heap.size) 23 9 m := (holdsN_new w 23 9 m).alloc (.cells (arrN 9 (fun _ => 0)) 23)
  have h1 : holdsN ((w.alloc (.cells (arrN 9 m) 23)).alloc (.cells (arrN 9 (fun _ => 0)) 23)) (w.heap.size + 1) 23 9 (fun _ => 0) := by
    have := holdsN_new (w.alloc (.cells (arrN 9 m) 23)) 23 9 (fun _ => 0)
    simpa using this
  have hb : Below w.heap.size w ((w.alloc (.cells (arrN 9 m) 23)).alloc (.cells (arrN 9 (fun _ => 0)) 23)) := ((Below.refl _ _).alloc (Nat.le_refl _) _).alloc (by simp) _
  have hs : w.heap.size + 1 < ((w.alloc (.cells (arrN 9 m) 23)).alloc (.cells (arrN 9 (fun _ => 0)) 23)).heap.size := by simp
  generalize ((w.alloc (.cells (arrN 9 m) 23)).alloc (.cells (arrN 9 (fun _ => 0)) 23)) = wc at *
  generalize hB : w.heap.size = B at *
  have HB := Lib.hid hB
  clear hB
  go_wp2_with (refine wpList_load_arr rfl 23 (.tmp 1) rfl rfl h0 Try.underlying23 hi9 ?_)
  refine (check_any m _).mono ?_; rintro e w1 ⟨rfl, b1⟩
  have g0 := h0.kept b1 (by omega)
  have g1 := h1.kept b1 (by omega)
  have gb := hb.trans (b1.mono (by omega))
  have gs := Nat.lt_of_lt_of_le hs b1.size
  clear h0 h1 hb hs b1
  go_wp2_with (refine wpList_load_arr rfl 23 (.tmp 1) rfl rfl g0 Try.underlying23 hi9 ?_)
  refine (HX.out _).mono ?_; rintro e w2 ⟨rfl, b2⟩
  have G1 := Lib.hid (g1.kept b2 (by omega))
  have GB := gb.trans (b2.mono (by omega))
  clear g0 g1 gb gs b2
  go_wp2_with (first
    | (refine wpList_build_as rfl 23 _ rfl (arrN 9 fun _ => 0) (by kernel_rfl) ?_)
    | (refine wpList_store_arr rfl 23 (.tmp 2) (.tmp 20) rfl rfl rfl G1.out (arrN_size _ _) hi9 ?_))
  refine bodyPost_ret (v := .tuple #[.agg (arrN 9 fun _ => 0), .int .i64 17]) (results_arr_tmp rfl _ _ rfl rfl (holdsN_row G1.out _) Try.underlying23 hi9) rfl ?_
  exact ⟨by rw [HV.out, HC.out], by rw [HB.out]; exact below_setRow GB (by omega) _⟩

set_option maxHeartbeats 4000000 in
theorem inverse_loop (m : Nat → Int) (w : World) (h : okM m) (hd : exactS m ≠ 0) :
    Calls Try.prog 51 #[.agg (arrN 9 m)] w fun e w' => e = .returned (.tuple #[.agg (arrN 9 (invV m)), .int .i64 (invCode m)]) ∧ Below w.heap.size w w' := by
  have hc := codeM_ok h
  have HX := Lib.hid (fun w => exact_any m w h)
  have hbd := exactS_bound h
  have HMB := Lib.hid (minorS_bound h)
  have HMA := Lib.hid (fun r c w => minor_any m r c w h)
  have HOUT : Hid (∀ i j, i < 3 → j < 3 → ¬ (-1048576 ≤ invEl m i j ∧ invEl m i j ≤ 1048576) → invCode m = 17) := by
    intro i j hi hj hn
    unfold invCode
    rw [if_pos h, if_neg hd, if_neg (fun hall => hn (hall i hi j hj))]
  have HIN : Hid (invIn m → invCode m = 0) := by
    intro hall
    unfold invCode
    rw [if_pos h, if_neg hd, if_pos hall]
  have hd0 : (exactS m == 0) = false := by simpa using hd
  have HE : Hid (∀ i j, invEl m i j = ratioS (minorS m j i * 65536) (exactS m)) := fun _ _ => rfl
  clear h hd
  generalize exactS m = D at *
  go_enter Try.func51, Try.ntmps51
  go_upto_region 1 with fail
  rw [zero9]
  have h0 : holdsN ((w.alloc (.cells (arrN 9 m) 23)).alloc (.cells (arrN 9 (fun _ => 0)) 23)) (w.heap.size) 23 9 m := (holdsN_new w 23 9 m).alloc (.cells (arrN 9 (fun _ => 0)) 23)
  have h1 : holdsN ((w.alloc (.cells (arrN 9 m) 23)).alloc (.cells (arrN 9 (fun _ => 0)) 23)) (w.heap.size + 1) 23 9 (fun _ => 0) := by
    have := holdsN_new (w.alloc (.cells (arrN 9 m) 23)) 23 9 (fun _ => 0)
    simpa using this
  have hb : Below w.heap.size w ((w.alloc (.cells (arrN 9 m) 23)).alloc (.cells (arrN 9 (fun _ => 0)) 23)) := ((Below.refl _ _).alloc (Nat.le_refl _) _).alloc (by simp) _
  have hs : w.heap.size + 1 < ((w.alloc (.cells (arrN 9 m) 23)).alloc (.cells (arrN 9 (fun _ => 0)) 23)).heap.size := by simp
  generalize ((w.alloc (.cells (arrN 9 m) 23)).alloc (.cells (arrN 9 (fun _ => 0)) 23)) = wc at *
  generalize hB : w.heap.size = B at *
  have HB := Lib.hid hB
  clear hB
  go_wp2_with (refine wpList_load_arr rfl 23 (.tmp 1) rfl rfl h0 Try.underlying23 hi9 ?_)
  refine (check_any m _).mono ?_; rintro e w1 ⟨rfl, b1⟩
  have g0 := h0.kept b1 (by omega)
  have g1 := h1.kept b1 (by omega)
  have gb := hb.trans (b1.mono (by omega))
  have gs := Nat.lt_of_lt_of_le hs b1.size
  clear h0 h1 hb hs b1
  go_wp2_with (refine wpList_load_arr rfl 23 (.tmp 1) rfl rfl g0 Try.underlying23 hi9 ?_)
  refine (HX.out _).mono ?_; rintro e w2 ⟨rfl, b2⟩
  have h0 := g0.kept b2 (by omega)
  have h1 := g1.kept b2 (by omega)
  have hb := gb.trans (b2.mono (by omega))
  have hs := Nat.lt_of_lt_of_le gs b2.size
  clear g0 g1 gb gs b2 hc
  go_upto_region 8 with fail
  rw [zero9]
  have k0 := h0.alloc (.cells (arrN 9 (fun _ => 0)) 23)
  have k1 := h1.alloc (.cells (arrN 9 (fun _ => 0)) 23)
  have k2 := holdsN_new w2 23 9 (fun _ => 0)
  have kb := hb.alloc (by omega) (.cells (arrN 9 (fun _ => 0)) 23)
  have ks : w2.heap.size < (w2.alloc (.cells (arrN 9 (fun _ => 0)) 23)).heap.size := by simp
  generalize w2.alloc (.cells (arrN 9 (fun _ => 0)) 23) = wd at *
  generalize w2.heap.size = g at *
  clear h0 h1 hb
  go_wp2_with fail
  go_loopw [3, 21] (fun _ v21 wr => ∃ (i : Nat) (p : Nat → Int), i ≤ 3 ∧ v21 = .int .i64 i ∧ Hid (Done i 0 p posR (invEl m)) ∧ Hid (∀ a b, a < 3 → b < 3 → (a < i ∨ (a = i ∧ b < 0)) → -1048576 ≤ invEl m a b ∧ invEl m a b ≤ 1048576) ∧ holdsN wr B 23 9 m ∧ holdsN wr (B + 1) 23 9 (fun _ => 0) ∧ holdsN wr g 23 9 p ∧ Below B w wr ∧ g < wr.heap.size) (fun _ v _ => 3 - (intOf v).toNat)
  case atStart => exact ⟨0, fun _ => 0, by omega, rfl, Done.zero _ _ _, fun a b _ _ h => absurd h (by omega), k0, k1, k2, kb, ks⟩
  case round =>
    obtain ⟨i, p, hi, rfl, hdn, hin, k0, k1, k2, kb, ks⟩ := hrel
    by_cases hi3 : i < 3
    · go_wp2_with fail
      obtain ⟨wo, hwo⟩ : ∃ wo : World, wo = wr := ⟨_, rfl⟩
      subst hwo
      rw [show decide ((i : Int) < 3) = true from decide_eq_true (by omega)]
      go_loopw [3, 24] (fun _ v24 wr => ∃ (j : Nat) (p : Nat → Int), j ≤ 3 ∧ v24 = .int .i64 j ∧ Hid (Done i j p posR (invEl m)) ∧ Hid (∀ a b, a < 3 → b < 3 → (a < i ∨ (a = i ∧ b < j)) → -1048576 ≤ invEl m a b ∧ invEl m a b ≤ 1048576) ∧ holdsN wr B 23 9 m ∧ holdsN wr (B + 1) 23 9 (fun _ => 0) ∧ holdsN wr g 23 9 p ∧ Below B w wr ∧ g < wr.heap.size) (fun _ v _ => 3 - (intOf v).toNat)
      case atStart => exact ⟨0, p, by omega, rfl, hdn, hin, k0, k1, k2, kb, ks⟩
      case round =>
        obtain ⟨j, p, hj, rfl, hdn, hin, k0, k1, k2, kb, ks⟩ := hrel
        by_cases hj3 : j < 3
        · have hmb := HMB.out j i
          have hma := fun w => HMA.out j i w hj3 hi3
          have hel := HE.out i j
          have hrt := fun w => ratio_any (minorS m j i * 65536) D w (by unfold I64; omega) (by unfold I64; omega)
          rw [← hel] at hrt
          have HDN' : Hid (Done i (j + 1) (upd p (posR i j) (invEl m i j)) posR (invEl m)) := hdn.out.step hi3 hj3 (by unfold posR; omega)
          have hout := HOUT.out i j hi3 hj3
          generalize minorS m j i = M at *
          have HMA1 := Lib.hid hma
          have HRT := Lib.hid hrt
          clear hma hrt hel
          have hin' : -1048576 ≤ invEl m i j → invEl m i j ≤ 1048576 → Hid (∀ a b, a < 3 → b < 3 → (a < i ∨ (a = i ∧ b < j + 1)) → -1048576 ≤ invEl m a b ∧ invEl m a b ≤ 1048576) := by
            intro h1 h2 a b ha hb' hab
            by_cases he : a = i ∧ b = j
            · obtain ⟨rfl, rfl⟩ := he; exact ⟨h1, h2⟩
            · exact hin.out a b ha hb' (by omega)
          generalize invEl m i j = x at *
          obtain ⟨hmb0, hmb1⟩ := hmb
          go_wp2_with (refine wpList_load_arr rfl 23 (.tmp 1) rfl rfl k0 Try.underlying23 hi9 ?_)
          refine (HMA1.out _).mono ?_; rintro e w3 ⟨rfl, b3⟩
          have m0 := k0.kept b3 (by omega)
          have m1 := k1.kept b3 (by omega)
          have m2 := k2.kept b3 (by omega)
          have mb := kb.trans (b3.mono (by omega))
          have ms := Nat.lt_of_lt_of_le ks b3.size
          clear b3
          go_wp2_with fail
          refine (HRT.out _).mono ?_; rintro e w4 ⟨rfl, ⟨nd, rfl⟩⟩
          by_cases hx : -1048576 ≤ x ∧ x ≤ 1048576
          · obtain ⟨hx0, hx1⟩ := hx
            have HIN' := hin' hx0 hx1
            clear hin' hout
            have c2 := m2.cell (3 * i + j) (by omega)
            have c3 := m2.free (3 * i + j)
            go_wp2
            go_roundw
            case rel => exact ⟨j + 1, _, by omega, by go_num, HDN', HIN', (m0.drewN _).setOther (by omega) _, (m1.drewN _).setOther (by omega) _, (m2.drewN _).set (3 * i + j) x, (below_drewN mb _).setCell (by show B ≤ g; omega) _, by simpa [World.setCell] using ms⟩
            case measure => simp [intOf]; omega
          · have HC := Lib.hid (hout hx)
            have HV := Lib.hid (invV_zero (m := m) (by rw [HC.out]; decide))
            have G1 := Lib.hid (m1.drewN nd)
            have GB := below_drewN mb nd
            clear hout hin' m1
            rcases (show x < -1048576 ∨ 1048576 < x by omega) with hx1 | hx1
            · clear hx
              go_wp2_with (first
                | (refine wpList_build_as rfl 23 _ rfl (arrN 9 fun _ => 0) (by kernel_rfl) ?_)
                | (refine wpList_store_arr rfl 23 (.tmp 2) (.tmp 40) rfl rfl rfl G1.out (arrN_size _ _) hi9 ?_))
              refine bodyPost_ret (v := .tuple #[.agg (arrN 9 fun _ => 0), .int .i64 17]) (results_arr_tmp rfl _ _ rfl rfl (holdsN_row G1.out _) Try.underlying23 hi9) rfl ?_
              exact ⟨by rw [HV.out, HC.out], by rw [HB.out]; exact below_setRow GB (by omega) _⟩
            · clear hx
              go_wp2_with (first
                | (refine wpList_build_as rfl 23 _ rfl (arrN 9 fun _ => 0) (by kernel_rfl) ?_)
                | (refine wpList_store_arr rfl 23 (.tmp 2) (.tmp 40) rfl rfl rfl G1.out (arrN_size _ _) hi9 ?_))
              refine bodyPost_ret (v := .tuple #[.agg (arrN 9 fun _ => 0), .int .i64 17]) (results_arr_tmp rfl _ _ rfl rfl (holdsN_row G1.out _) Try.underlying23 hi9) rfl ?_
              exact ⟨by rw [HV.out, HC.out], by rw [HB.out]; exact below_setRow GB (by omega) _⟩
        · obtain rfl : j = 3 := by omega
          have hd' := Lib.hid hdn.out.next
          have HIN' : Hid (∀ a b, a < 3 → b < 3 → (a < i + 1 ∨ (a = i + 1 ∧ b < 0)) → -1048576 ≤ invEl m a b ∧ invEl m a b ≤ 1048576) := fun a b ha hb' hab => hin.out a b ha hb' (by omega)
          go_wp2
          go_roundw
          case rel => exact ⟨i + 1, p, by omega, by go_num, hd', HIN', k0, k1, k2, kb, ks⟩
          case measure => simp [intOf]; omega
    · obtain rfl : i = 3 := by omega
      have HC : Hid (invCode m = 0) := HIN.out (fun a ha b hb' => hin.out a b ha hb' (by omega))
      have hp : Hid (arrN 9 p = arrN 9 (invV m)) := by
        show _ = _
        unfold invV
        rw [HC.out, if_pos rfl]
        refine arrN_congr fun k hk => ?_
        have := hdn.out (k / 3) (k % 3) (by omega) (by omega) (by omega)
        rw [show posR (k / 3) (k % 3) = k by unfold posR; omega] at this
        exact this
      have G1 := Lib.hid k1
      clear k1
      go_wp2_with (first
        | (refine wpList_load_arr rfl 23 (.tmp 6) rfl rfl k2 Try.underlying23 hi9 ?_)
        | (refine wpList_store_arr rfl 23 (.tmp 2) (.tmp 49) rfl rfl rfl G1.out (arrN_size _ _) hi9 ?_))
      refine bodyPost_ret (v := .tuple #[.agg (arrN 9 p), .int .i64 0]) (results_arr_tmp rfl _ _ rfl rfl (holdsN_row G1.out p) Try.underlying23 hi9) rfl ?_
      exact ⟨by rw [HC.out, hp.out], by rw [HB.out]; exact below_setRow kb (by omega) _⟩
theorem inverse_any (m : Nat → Int) (w : World) :
    Calls Try.prog 51 #[.agg (arrN 9 m)] w fun e w' => e = .returned (.tuple #[.agg (arrN 9 (invV m)), .int .i64 (invCode m)]) ∧ Below w.heap.size w w' := by
  by_cases h : okM m
  · by_cases hd : exactS m = 0
    · exact inverse_zero m w h hd
    · exact inverse_loop m w h hd
  · exact inverse_bad m w h
end Go.Proofs.Ytlpfepcmpccbeaa.Mx
/-
  Whole matrices, the identity, == of two arrays of ints.
-/
namespace Go.Proofs.Ytlpfepcmpccbeaa.Mx
open Go.RowKit Go.Proofs.Ytlpfepcmpccbeaa.NM Go.Proofs.Ytlpfepcmpccbeaa.Spec Go.Proofs.YtlpfepcmpccbeaaW.PrintWords Go.Proofs.YtlpfepcmpccbeaaW.PrintMore
set_option linter.unusedVariables false

/-- do the two agree on the first n places? -/
def eqN (n : Nat) (m p : Nat → Int) : Bool := decide (∀ k, k < n → m k = p k)
theorem run_equalIn_arr {P : Program} (w : World) (d n : Nat) (t e : TypeId) (m p : Nat → Int) (hu : P.underlying t = some (.array n e)) (hk : P.underlying e = some (.int .i64)) (hs : (P.info? e).map (·.size) = some 1) (ha : ∀ w, (isAgg e).run P w = .ok false w) :
    (Op.equalIn (d + 1 + 1) t (.agg (arrN n m)) (.agg (arrN n p))).run P w = .ok (eqN n m p) w := by
  cases hi : P.info? e with
  | none => simp [hi] at hs
  | some i =>
    have hs1 : i.size = 1 := by simpa [hi] using hs
    have hp : ∀ (q : Nat → Int) (k : Nat), k < n → ∀ w, (part e (arrN n q) k).run P w = .ok (.int .i64 (q k)) w := by
      intro q k hk w
      simp [part, ha w, arrN_get n q k hk]
    have he : ∀ a b w, (Op.equalIn (d + 1) e (.int .i64 a) (.int .i64 b)).run P w = .ok (a == b) w := fun a b w => run_equalIn_int w d e .i64 .i64 a b hk
    rw [Op.equalIn.eq_def]
    simp only [Sem.run_bind, run_underlying hu, Result.andThen_ok]
    simp [sizeOf, typeInfo, hi, hs1]
    rw [show eqN n m p = decide (∀ k, k ∈ List.range' 0 n → m k = p k) by unfold eqN; congr 1; apply propext; simp [List.mem_range'_1]]
    have hl : ∀ k, k ∈ List.range' 0 n → k < n := by intro k hk; simpa [List.mem_range'_1] using hk
    revert hl
    generalize List.range' 0 n = l
    intro hl
    induction l generalizing w with
    | nil => simp
    | cons a l ih =>
      have ih' := ih w (fun k hk => hl k (by simp [hk]))
      have hla := hl a (by simp)
      by_cases hab : m a = p a
      · simp only [List.forIn_cons, Sem.run_bind, hp m a hla, hp p a hla, he, Result.andThen_ok, hab, beq_self_eq_true, Bool.true_eq_false, if_false, Sem.run_pure] at ih' ⊢
        rw [ih']
        simp [hab]
      · simp [List.forIn_cons, hp m a hla, hp p a hla, he, hab]
/-- == and != of two arrays of 9, of 3 -/
theorem eq9 (m p : Nat → Int) (w : World) : (Op.equalIn 10000 23 (.agg (arrN 9 m)) (.agg (arrN 9 p))).run Try.prog w = .ok (eqN 9 m p) w :=
  run_equalIn_arr w 9998 9 23 3 m p Try.underlying23 Try.underlying3 (by kernel_rfl) (fun _ => by kernel_rfl)
theorem eq3 (m p : Nat → Int) (w : World) : (Op.equalIn 10000 47 (.agg (arrN 3 m)) (.agg (arrN 3 p))).run Try.prog w = .ok (eqN 3 m p) w :=
  run_equalIn_arr w 9998 3 47 3 m p Try.underlying47 Try.underlying3 (by kernel_rfl) (fun _ => by kernel_rfl)
/-- a matrix of whole numbers -/
def wholeM (l : Nat → Int) : Nat → Int := fun k => l k * 65536
/-- the identity -/
def sameM : Nat → Int := fun k => if k % 4 = 0 then 65536 else 0

set_option maxHeartbeats 1000000 in
theorem same_any (w : World) :
    Calls Try.prog 41 #[] w fun e w' => e = .returned (.agg (arrN 9 sameM)) ∧ Below w.heap.size w w' := by
  go_enter Try.func41, Try.ntmps41
  go_upto_region 2 with fail
  rw [zero9]
  have h0 : holdsN ((w.alloc (.cells (arrN 9 (fun _ => 0)) 23)).alloc (.cells (arrN 9 (fun _ => 0)) 23)) (w.heap.size) 23 9 (fun _ => 0) := (holdsN_new w 23 9 (fun _ => 0)).alloc (.cells (arrN 9 (fun _ => 0)) 23)
  have h1 : holdsN ((w.alloc (.cells (arrN 9 (fun _ => 0)) 23)).alloc (.cells (arrN 9 (fun _ => 0)) 23)) (w.heap.size + 1) 23 9 (fun _ => 0) := by
    have := holdsN_new (w.alloc (.cells (arrN 9 (fun _ => 0)) 23)) 23 9 (fun _ => 0)
    simpa using this
  have hb : Below w.heap.size w ((w.alloc (.cells (arrN 9 (fun _ => 0)) 23)).alloc (.cells (arrN 9 (fun _ => 0)) 23)) := ((Below.refl _ _).alloc (Nat.le_refl _) _).alloc (by simp) _
  have hs : w.heap.size + 1 < ((w.alloc (.cells (arrN 9 (fun _ => 0)) 23)).alloc (.cells (arrN 9 (fun _ => 0)) 23)).heap.size := by simp
  generalize ((w.alloc (.cells (arrN 9 (fun _ => 0)) 23)).alloc (.cells (arrN 9 (fun _ => 0)) 23)) = wc at *
  generalize hB : w.heap.size = B at *
  have HB := Lib.hid hB
  clear hB
  go_wp2_with fail
  go_loopw [2, 3] (fun _ v wr => ∃ (k : Nat) (p : Nat → Int), k ≤ 3 ∧ v = .int .i64 k ∧ Hid (∀ j, p j = if j < 4 * k ∧ j % 4 = 0 then 65536 else 0) ∧ holdsN wr (B + 1) 23 9 p ∧ holdsN wr B 23 9 (fun _ => 0) ∧ Below B w wr ∧ B + 1 < wr.heap.size) (fun _ v _ => 3 - (intOf v).toNat)
  case atStart => exact ⟨0, fun _ => 0, by omega, rfl, fun j => by simp, h1, h0, hb, hs⟩
  case round =>
    obtain ⟨k, p, hk, rfl, hp, k1, k0, kb, ks⟩ := hrel
    clear h0 h1 hb hs
    by_cases hk3 : k < 3
    · have c1 := k1.cell (4 * k) (by omega)
      have c2 := k1.free (4 * k)
      have hp' : Hid (∀ j, upd p (4 * k) 65536 j = if j < 4 * (k + 1) ∧ j % 4 = 0 then 65536 else 0) := by
        intro j
        unfold upd
        by_cases hj : j = 4 * k
        · rw [if_pos hj, if_pos (by omega)]
        · rw [if_neg hj, hp.out j]
          by_cases hj2 : j < 4 * k ∧ j % 4 = 0
          · rw [if_pos hj2, if_pos (by omega)]
          · rw [if_neg hj2, if_neg (by omega)]
      go_wp2
      go_roundw
      case rel => exact ⟨k + 1, _, by omega, by go_num, hp', k1.set (4 * k) 65536, k0.setOther (by omega) _, kb.setCell (by show B ≤ B + 1; omega) _, by simpa [World.setCell] using ks⟩
      case measure => simp [intOf]; omega
    · obtain rfl : k = 3 := by omega
      have hq : Hid (arrN 9 p = arrN 9 sameM) := arrN_congr fun j hj => by
        rw [hp.out j]
        unfold sameM
        by_cases hj4 : j % 4 = 0
        · rw [if_pos ⟨by omega, hj4⟩, if_pos hj4]
        · rw [if_neg (fun h => hj4 h.2), if_neg hj4]
      have K0 := Lib.hid k0
      clear k0
      go_wp2_with (first
        | (refine wpList_load_arr rfl 23 (.tmp 1) rfl rfl k1 Try.underlying23 hi9 ?_)
        | (refine wpList_store_arr rfl 23 (.tmp 0) (.tmp 10) rfl rfl rfl K0.out (arrN_size _ _) hi9 ?_))
      refine bodyPost_ret (v := .agg (arrN 9 p)) (results_cell_row rfl _ _ B 23 _ _ _ rfl (holdsN_row K0.out p) Try.underlying23 rfl (by rw [arrN_size]; exact hi9)) rfl ?_
      exact ⟨by rw [hq.out], by rw [HB.out]; exact below_setRow kb (by omega) _⟩
end Go.Proofs.Ytlpfepcmpccbeaa.Mx
/-
  Images of vectors: the reference's Apply.
-/
namespace Go.Proofs.Ytlpfepcmpccbeaa.Mx
open Go.RowKit Go.Proofs.Ytlpfepcmpccbeaa.NM Go.Proofs.Ytlpfepcmpccbeaa.Spec Go.Proofs.YtlpfepcmpccbeaaW.PrintWords Go.Proofs.YtlpfepcmpccbeaaW.PrintMore
attribute [local go_sem] max2_int min2_int
set_option linter.unusedVariables false


set_option maxHeartbeats 2000000 in
theorem rapply_bad (m v : Nat → Int) (w : World) (ha : ¬ okM m) :
    Calls Try.prog 57 #[.agg (arrN 9 m), .agg (arrN 3 v)] w fun e w' => e = .returned (.agg (arrN 3 (applyM m v))) ∧ Below w.heap.size w w' := by
  have HM : Hid (applyM m v = fun _ => 0) := by show _ = _; unfold applyM; rw [if_neg ha]
  have hc := codeM_bad ha
  go_enter Try.func57, Try.ntmps57
  go_upto_region 2 with fail
  rw [zero3]
  have h0 : holdsN ((((w.alloc (.cells (arrN 9 m) 23)).alloc (.cells (arrN 3 v) 47)).alloc (.cells (arrN 3 (fun _ => 0)) 47)).alloc (.cells (arrN 3 (fun _ => 0)) 47)) (w.heap.size) 23 9 m := (((holdsN_new w 23 9 m).alloc (.cells (arrN 3 v) 47)).alloc (.cells (arrN 3 (fun _ => 0)) 47)).alloc (.cells (arrN 3 (fun _ => 0)) 47)
  have h1 : holdsN ((((w.alloc (.cells (arrN 9 m) 23)).alloc (.cells (arrN 3 v) 47)).alloc (.cells (arrN 3 (fun _ => 0)) 47)).alloc (.cells (arrN 3 (fun _ => 0)) 47)) (w.heap.size + 1) 47 3 v := by
    have := ((holdsN_new (w.alloc (.cells (arrN 9 m) 23)) 47 3 v).alloc (.cells (arrN 3 (fun _ => 0)) 47)).alloc (.cells (arrN 3 (fun _ => 0)) 47)
    simpa using this
  have h2 : holdsN ((((w.alloc (.cells (arrN 9 m) 23)).alloc (.cells (arrN 3 v) 47)).alloc (.cells (arrN 3 (fun _ => 0)) 47)).alloc (.cells (arrN 3 (fun _ => 0)) 47)) (w.heap.size + 1 + 1) 47 3 (fun _ => 0) := by
    have := (holdsN_new ((w.alloc (.cells (arrN 9 m) 23)).alloc (.cells (arrN 3 v) 47)) 47 3 (fun _ => 0)).alloc (.cells (arrN 3 (fun _ => 0)) 47)
    simpa using this
  have h3 : holdsN ((((w.alloc (.cells (arrN 9 m) 23)).alloc (.cells (arrN 3 v) 47)).alloc (.cells (arrN 3 (fun _ => 0)) 47)).alloc (.cells (arrN 3 (fun _ => 0)) 47)) (w.heap.size + 1 + 1 + 1) 47 3 (fun _ => 0) := by
    have := holdsN_new (((w.alloc (.cells (arrN 9 m) 23)).alloc (.cells (arrN 3 v) 47)).alloc (.cells (arrN 3 (fun _ => 0)) 47)) 47 3 (fun _ => 0)
    simpa using this
  have hb : Below w.heap.size w ((((w.alloc (.cells (arrN 9 m) 23)).alloc (.cells (arrN 3 v) 47)).alloc (.cells (arrN 3 (fun _ => 0)) 47)).alloc (.cells (arrN 3 (fun _ => 0)) 47)) := ((((Below.refl _ _).alloc (Nat.le_refl _) _).alloc (by simp) _).alloc (by simp; omega) _).alloc (by simp; omega) _
  have hs : w.heap.size + 1 + 1 + 1 < ((((w.alloc (.cells (arrN 9 m) 23)).alloc (.cells (arrN 3 v) 47)).alloc (.cells (arrN 3 (fun _ => 0)) 47)).alloc (.cells (arrN 3 (fun _ => 0)) 47)).heap.size := by simp
  generalize ((((w.alloc (.cells (arrN 9 m) 23)).alloc (.cells (arrN 3 v) 47)).alloc (.cells (arrN 3 (fun _ => 0)) 47)).alloc (.cells (arrN 3 (fun _ => 0)) 47)) = wc at *
  generalize hB : w.heap.size = B at *
  have HB := Lib.hid hB
  clear hB
  go_wp2_with (refine wpList_load_arr rfl 23 (.tmp 2) rfl rfl h0 Try.underlying23 hi9 ?_)
  refine (rcheck_any m _).mono ?_; rintro e w1 ⟨rfl, b1⟩
  have G2 := Lib.hid (h2.kept b1 (by omega))
  have G3 := Lib.hid (h3.kept b1 (by omega))
  have GB := hb.trans (b1.mono (by omega))
  clear h0 h1 h2 h3 hb hs b1
  go_wp2_with (first
    | (refine wpList_load_arr rfl 47 (.tmp 5) rfl rfl G3.out Try.underlying47 hi3 ?_)
    | (refine wpList_store_arr rfl 47 (.tmp 4) (.tmp 12) rfl rfl rfl G2.out (arrN_size _ _) hi3 ?_))
  refine bodyPost_ret (v := .agg (arrN 3 fun _ => 0)) (results_cell_row rfl _ _ (B + 1 + 1) 47 _ _ _ rfl (holdsN_row G2.out _) Try.underlying47 rfl (by rw [arrN_size]; exact hi3)) rfl ?_
  exact ⟨by rw [HM.out], by rw [HB.out]; exact below_setRow GB (by omega) _⟩

set_option maxHeartbeats 2000000 in
theorem rapply_ok (m v : Nat → Int) (w : World) (ha : okM m) :
    Calls Try.prog 57 #[.agg (arrN 9 m), .agg (arrN 3 v)] w fun e w' => e = .returned (.agg (arrN 3 (applyM m v))) ∧ Below w.heap.size w w' := by
  have HM : Hid (applyM m v = imageM m (clampV v)) := by show _ = _; unfold applyM; rw [if_pos ha]
  have hc := codeM_ok ha
  have HA := Lib.hid ha
  clear ha
  go_enter Try.func57, Try.ntmps57
  go_upto_region 2 with fail
  rw [zero3]
  have h0 : holdsN ((((w.alloc (.cells (arrN 9 m) 23)).alloc (.cells (arrN 3 v) 47)).alloc (.cells (arrN 3 (fun _ => 0)) 47)).alloc (.cells (arrN 3 (fun _ => 0)) 47)) (w.heap.size) 23 9 m := (((holdsN_new w 23 9 m).alloc (.cells (arrN 3 v) 47)).alloc (.cells (arrN 3 (fun _ => 0)) 47)).alloc (.cells (arrN 3 (fun _ => 0)) 47)
  have h1 : holdsN ((((w.alloc (.cells (arrN 9 m) 23)).alloc (.cells (arrN 3 v) 47)).alloc (.cells (arrN 3 (fun _ => 0)) 47)).alloc (.cells (arrN 3 (fun _ => 0)) 47)) (w.heap.size + 1) 47 3 v := by
    have := ((holdsN_new (w.alloc (.cells (arrN 9 m) 23)) 47 3 v).alloc (.cells (arrN 3 (fun _ => 0)) 47)).alloc (.cells (arrN 3 (fun _ => 0)) 47)
    simpa using this
  have h2 : holdsN ((((w.alloc (.cells (arrN 9 m) 23)).alloc (.cells (arrN 3 v) 47)).alloc (.cells (arrN 3 (fun _ => 0)) 47)).alloc (.cells (arrN 3 (fun _ => 0)) 47)) (w.heap.size + 1 + 1) 47 3 (fun _ => 0) := by
    have := (holdsN_new ((w.alloc (.cells (arrN 9 m) 23)).alloc (.cells (arrN 3 v) 47)) 47 3 (fun _ => 0)).alloc (.cells (arrN 3 (fun _ => 0)) 47)
    simpa using this
  have h3 : holdsN ((((w.alloc (.cells (arrN 9 m) 23)).alloc (.cells (arrN 3 v) 47)).alloc (.cells (arrN 3 (fun _ => 0)) 47)).alloc (.cells (arrN 3 (fun _ => 0)) 47)) (w.heap.size + 1 + 1 + 1) 47 3 (fun _ => 0) := by
    have := holdsN_new (((w.alloc (.cells (arrN 9 m) 23)).alloc (.cells (arrN 3 v) 47)).alloc (.cells (arrN 3 (fun _ => 0)) 47)) 47 3 (fun _ => 0)
    simpa using this
  have hb : Below w.heap.size w ((((w.alloc (.cells (arrN 9 m) 23)).alloc (.cells (arrN 3 v) 47)).alloc (.cells (arrN 3 (fun _ => 0)) 47)).alloc (.cells (arrN 3 (fun _ => 0)) 47)) := ((((Below.refl _ _).alloc (Nat.le_refl _) _).alloc (by simp) _).alloc (by simp; omega) _).alloc (by simp; omega) _
  have hs : w.heap.size + 1 + 1 + 1 < ((((w.alloc (.cells (arrN 9 m) 23)).alloc (.cells (arrN 3 v) 47)).alloc (.cells (arrN 3 (fun _ => 0)) 47)).alloc (.cells (arrN 3 (fun _ => 0)) 47)).heap.size := by simp
  generalize ((((w.alloc (.cells (arrN 9 m) 23)).alloc (.cells (arrN 3 v) 47)).alloc (.cells (arrN 3 (fun _ => 0)) 47)).alloc (.cells (arrN 3 (fun _ => 0)) 47)) = wc at *
  generalize hB : w.heap.size = B at *
  have HB := Lib.hid hB
  clear hB
  go_wp2_with (refine wpList_load_arr rfl 23 (.tmp 2) rfl rfl h0 Try.underlying23 hi9 ?_)
  refine (rcheck_any m _).mono ?_; rintro e w1 ⟨rfl, b1⟩
  have g0 := h0.kept b1 (by omega)
  have g1 := h1.kept b1 (by omega)
  have g2 := h2.kept b1 (by omega)
  have g3 := h3.kept b1 (by omega)
  have gb := hb.trans (b1.mono (by omega))
  have gs := Nat.lt_of_lt_of_le hs b1.size
  clear h0 h1 h2 h3 hb hs b1
  go_wp2_with fail
  clear hc
  go_loopw [6, 7, 8] (fun v6 _ _ wr => ∃ (i : Nat) (p : Nat → Int), i ≤ 3 ∧ v6 = .int .i64 i ∧ Hid (Upto i p (imageM m (clampV v))) ∧ holdsN wr B 23 9 m ∧ holdsN wr (B + 1) 47 3 v ∧ holdsN wr (B + 1 + 1) 47 3 (fun _ => 0) ∧ holdsN wr (B + 1 + 1 + 1) 47 3 p ∧ Below B w wr ∧ B + 1 + 1 + 1 < wr.heap.size) (fun v _ _ _ => 3 - (intOf v).toNat)
  case atStart => exact ⟨0, fun _ => 0, by omega, rfl, fun j hj => absurd hj (by omega), g0, g1, g2, g3, gb, gs⟩
  case round =>
    obtain ⟨i, p, hi, rfl, hd, k0, k1, k2, k3, kb, ks⟩ := hrel
    clear g0 g1 g2 g3 gb gs
    by_cases hi3 : i < 3
    · go_wp2_with fail
      obtain ⟨wo, hwo⟩ : ∃ wo : World, wo = wr := ⟨_, rfl⟩
      subst hwo
      rw [show decide ((i : Int) < 3) = true from decide_eq_true (by omega)]
      go_loopw [7, 8] (fun v7 v8 wr => ∃ k : Nat, k ≤ 3 ∧ v8 = .int .i64 k ∧ v7 = .int .i64 (dotV m (clampV v) i k) ∧ holdsN wr B 23 9 m ∧ holdsN wr (B + 1) 47 3 v ∧ holdsN wr (B + 1 + 1) 47 3 (fun _ => 0) ∧ holdsN wr (B + 1 + 1 + 1) 47 3 p ∧ Below B w wr ∧ B + 1 + 1 + 1 < wr.heap.size) (fun _ v _ => 3 - (intOf v).toNat)
      case atStart => exact ⟨0, by omega, rfl, rfl, k0, k1, k2, k3, kb, ks⟩
      case round =>
        obtain ⟨k, hk, rfl, rfl, k0, k1, k2, k3, kb, ks⟩ := hrel
        have hdb := dotV_bound (v := v) HA.out i hi3 k hk
        by_cases hk3 : k < 3
        · have c1 := k0.cell (3 * i + k) (by omega)
          have c2 := k1.cell k (by omega)
          have hxy := mul50 (HA.out (3 * i + k) (by omega)) (clampV_range v k)
          have hdot : Hid (dotV m (clampV v) i (k + 1) = dotV m (clampV v) i k + m (3 * i + k) * clampV v k) := rfl
          have hcl : (if 1073741824 < (if v k < -1073741824 then -1073741824 else v k) then 1073741824 else (if v k < -1073741824 then -1073741824 else v k)) = clampV v k := by unfold clampV clampS; split <;> split <;> omega
          generalize clampV v k = y at *
          generalize v k = z at *
          generalize m (3 * i + k) = x at *
          generalize hS : dotV m (clampV v) i k = S at *
          have HS := Lib.hid hS
          have HCL := Lib.hid hcl
          clear hS hcl
          obtain ⟨hxy0, hxy1⟩ := hxy
          obtain ⟨hdb0, hdb1⟩ := hdb
          go_wp2_with fail
          go_quiet (fail)
          go_wp2_with fail
          go_roundw
          case rel => exact ⟨k + 1, by omega, by go_num, by rw [HCL.out, hdot.out, w64' (x := x * y) (by omega) (by omega), w64' (by omega) (by omega)], k0.drewN _, k1.drewN _, k2.drewN _, k3.drewN _, below_drewN kb _, ks⟩
          case measure => simp [intOf]; omega
        · obtain rfl : k = 3 := by omega
          have c2 := k3.cell i (by omega)
          have c3 := k3.free i
          have hd' : Hid (Upto (i + 1) (upd p i (imageM m (clampV v) i)) (imageM m (clampV v))) := hd.out.step
          have hS : dotV m (clampV v) i 3 = m (3 * i) * clampV v 0 + m (3 * i + 1) * clampV v 1 + m (3 * i + 2) * clampV v 2 := by simp [dotV]
          have hE : imageM m (clampV v) i = divS (dotV m (clampV v) i 3) 65536 := by rw [hS]; rfl
          rw [hE] at hd'
          clear hS hE
          generalize dotV m (clampV v) i 3 = S at *
          have hdv := fun w => rdiv_any S 65536 w (by unfold I64; omega) (by unfold I64; omega)
          have HDV := Lib.hid hdv
          clear hdv
          go_wp2_with (go_at_call 85; refine (HDV.out _).mono ?_; rintro e w' ⟨rfl, ⟨nd, rfl⟩⟩)
          go_roundw
          case rel => exact ⟨i + 1, _, by omega, by go_num, hd', (k0.drewN _).setOther (by omega) _, (k1.drewN _).setOther (by omega) _, (k2.drewN _).setOther (by omega) _, (k3.drewN _).set i (divS S 65536), (below_drewN kb _).setCell (by show B ≤ B + 1 + 1 + 1; omega) _, by simpa [World.setCell] using ks⟩
          case measure => simp [intOf]; omega
    · obtain rfl : i = 3 := by omega
      have hp := Lib.hid hd.out.arr
      have G2 := Lib.hid k2
      go_wp2_with (first
        | (refine wpList_load_arr rfl 47 (.tmp 5) rfl rfl k3 Try.underlying47 Mx.hi3 ?_)
        | (refine wpList_store_arr rfl 47 (.tmp 4) (.tmp 39) rfl rfl rfl G2.out (arrN_size _ _) Mx.hi3 ?_))
      refine bodyPost_ret (v := .agg (arrN 3 p)) (results_cell_row rfl _ _ (B + 1 + 1) 47 _ _ _ rfl (holdsN_row G2.out p) Try.underlying47 rfl (by rw [arrN_size]; exact Mx.hi3)) rfl ?_
      exact ⟨by rw [HM.out, hp.out], by rw [HB.out]; exact below_setRow kb (by omega) _⟩
theorem rapply_any (m v : Nat → Int) (w : World) :
    Calls Try.prog 57 #[.agg (arrN 9 m), .agg (arrN 3 v)] w fun e w' => e = .returned (.agg (arrN 3 (applyM m v))) ∧ Below w.heap.size w w' := by
  by_cases h : okM m
  · exact rapply_ok m v w h
  · exact rapply_bad m v w h
end Go.Proofs.Ytlpfepcmpccbeaa.Mx
