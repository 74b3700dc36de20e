/-
  Arrays of ints as functions on places: an array's value, its block, a store into it.
-/
import Derived.Test.YteehnbgkgdhgaaaProg
import Derived.WalkKit
import Derived.Deep.DeepCutAuto
import Derived.Laws.Tables
import Derived.Laws.Rows
import Derived.Laws.CopyOwn
import Derived.Lib.Hide
import Derived.Outline
import Derived.KernelRfl
import Derived.Deep.LoopGhost
import Derived.Deep.Draws
import Derived.Deep.QuietTactic
import Derived.BigQuiet
namespace Go.Proofs.Yteehnbgkgdhgaaa.Mx
open Go.RowKit
set_option linter.unusedVariables false

theorem ret_int {k : IntKind} {a b : Int} (h : a = b) : Ending.returned (.int k a) = .returned (.int k b) := by rw [h]
/-- n ints, as the array that holds them -/
def arrN (n : Nat) (m : Nat → Int) : Array Value := ((List.range n).map fun k => Value.int .i64 (m k)).toArray
theorem arrN_size (n : Nat) (m : Nat → Int) : (arrN n m).size = n := by simp [arrN]
theorem arrN_get (n : Nat) (m : Nat → Int) (k : Nat) (h : k < n) : (arrN n m)[k]? = some (.int .i64 (m k)) := by simp [arrN, h]
theorem arrN_congr {n : Nat} {m p : Nat → Int} (h : ∀ k, k < n → m k = p k) : arrN n m = arrN n p := by
  unfold arrN
  congr 1
  apply List.map_congr_left
  intro k hk
  rw [h k (by simpa using hk)]
theorem arrN_ext {n : Nat} {m p : Nat → Int} (h : arrN n m = arrN n p) : ∀ k, k < n → m k = p k := by
  intro k hk
  have h1 := arrN_get n m k hk
  rw [h, arrN_get n p k hk] at h1
  injection h1 with h1
  injection h1 with _ h1
  exact h1.symm
def upd (p : Nat → Int) (i : Nat) (v : Int) : Nat → Int := fun k => if k = i then v else p k
theorem arrN_set (n : Nat) (p : Nat → Int) (i : Nat) (v : Int) : (arrN n p).setIfInBounds i (.int .i64 v) = arrN n (upd p i v) := by
  apply Array.ext
  · simp [arrN]
  · intro k h1 h2
    by_cases h : i = k
    · simp [arrN, upd, h]
    · simp [arrN, upd, h, show ¬ k = i by omega]

/-- the block g holds these n ints -/
def holdsN (w : World) (g t n : Nat) (m : Nat → Int) : Prop := w.heap[g]? = some (.cells (arrN n m) t (0, 0))
theorem holdsN.cell {w : World} {g t n : Nat} {m : Nat → Int} (h : holdsN w g t n m) (k : Nat) (hk : k < n) : w.cell? ⟨g, k, none⟩ = some (.int .i64 (m k)) := by
  rw [cell_of_row w g k _ t _ h, arrN_get n m k hk]
theorem holdsN.free {w : World} {g t n : Nat} {m : Nat → Int} (h : holdsN w g t n m) (k : Nat) : w.frozen? ⟨g, k, none⟩ = false := by
  have h' : w.heap[g]? = some (.cells (arrN n m) t (0, 0)) := h
  simp [World.frozen?, h']
theorem holdsN.set {w : World} {g t n : Nat} {m : Nat → Int} (h : holdsN w g t n m) (k : Nat) (v : Int) : holdsN (w.setCell ⟨g, k, none⟩ (.int .i64 v)) g t n (upd m k v) := by
  unfold holdsN
  rw [setCell_eq_setRow w g k _ t _ _ h, setRow_heap w g _ _ t _ h, arrN_set]
theorem holdsN.lt {w : World} {g t n : Nat} {m : Nat → Int} (h : holdsN w g t n m) : g < w.heap.size := by
  have h' : w.heap[g]? = some (.cells (arrN n m) t (0, 0)) := h
  exact (Array.getElem?_eq_some_iff.1 h').1
theorem holdsN.kept {w w' : World} {g t n : Nat} {m : Nat → Int} (h : holdsN w g t n m) {B : Nat} (hb : Below B w w') (hg : g < B) : holdsN w' g t n m := by
  unfold holdsN
  rw [hb.block g hg]; exact h
theorem holdsN.drewN {w : World} {g t n : Nat} {m : Nat → Int} (h : holdsN w g t n m) (k : Nat) : holdsN (w.drewN k) g t n m := h
theorem holdsN.alloc {w : World} {g t n : Nat} {m : Nat → Int} (h : holdsN w g t n m) (o : Obj) : holdsN (w.alloc o) g t n m := by
  unfold holdsN
  have hl := h.lt
  show (w.heap.push o)[g]? = _
  rw [Array.getElem?_push, if_neg (by omega)]; exact h
theorem holdsN_new (w : World) (t n : Nat) (m : Nat → Int) : holdsN (w.alloc (.cells (arrN n m) t)) w.heap.size t n m := heap_alloc_new _ _
theorem holdsN_row {w : World} {g t n : Nat} {old : Array Value} (h : w.heap[g]? = some (.cells old t (0, 0))) (m : Nat → Int) : holdsN (w.setRow g (arrN n m)) g t n m := setRow_heap w g old _ t _ h
theorem holdsN.setOther {w : World} {g t n g' k : Nat} {m : Nat → Int} (h : holdsN w g t n m) (hne : g ≠ g') (v : Value) : holdsN (w.setCell ⟨g', k, none⟩ v) g t n m := by
  unfold holdsN at *
  rw [← h]
  simp only [World.setCell]
  rw [Array.getElem?_modify, if_neg (by omega)]

theorem wpList_build_as {P : Program} {ops : Array Oper} {rest : List Oper} {o : Oper} {a : Act} {w : World} {Q : Exit → Act → World → Prop} (hg : o.guard = none) (t : TypeId) (parts : Array (Nat × Operand)) (ho : o.op = .build t parts)
    (cells : Array Value) (hc : P.built t (parts.map fun (i, x) => (i, a.eval x)).toList = some cells)
    (h : wpList P ops Q rest (a.put o.dst (.agg cells)) w) : wpList P ops Q (o :: rest) a w :=
  wpList_build hg t parts ho (by rw [hc]; rfl) (by rw [hc]; exact h)

theorem below_drewN {B : Nat} {a w : World} (h : Below B a w) (n : Nat) : Below B a (w.drewN n) := ⟨h.os, h.tape, h.output, h.size, h.block⟩

theorem arrN_one (n : Nat) (m : Nat → Int) : (arrN n m).all (·.oneCell') = true := by
  rw [Array.all_eq_true_iff_forall_mem]
  intro v hv
  unfold arrN at hv
  simp only [List.mem_toArray, List.mem_map] at hv
  obtain ⟨k, _, rfl⟩ := hv
  rfl
theorem wpList_load_arr {P : Program} {ops : Array Oper} {rest : List Oper} {o : Oper} {a : Act} {w : World} {Q : Exit → Act → World → Prop} (hgd : o.guard = none) (ty : TypeId) (x : Operand) (ho : o.op = .load ty x)
    {g t n : Nat} {m : Nat → Int} (hx : a.eval x = .pointer (some ⟨g, 0, none⟩)) (hh : holdsN w g t n m) {k : Nat} {e : TypeId} (hu : P.underlying ty = some (.array k e)) (hi : (P.info? ty).map (·.size) = some n)
    (h : wpList P ops Q rest (a.put o.dst (.agg (arrN n m))) w) : wpList P ops Q (o :: rest) a w :=
  wpList_load_row hgd ty x ho g hx t (arrN n m) (0, 0) _ hh hu rfl (by rw [arrN_size]; exact hi) h
theorem wpList_load_arr_g {P : Program} {ops : Array Oper} {rest : List Oper} {o : Oper} {a : Act} {w : World} {Q : Exit → Act → World → Prop} (hw : Region.wanted o (yielded ops a.tmps) = true) (ty : TypeId) (x : Operand) (ho : o.op = .load ty x)
    {g t n : Nat} {m : Nat → Int} (hx : a.eval x = .pointer (some ⟨g, 0, none⟩)) (hh : holdsN w g t n m) {k : Nat} {e : TypeId} (hu : P.underlying ty = some (.array k e)) (hi : (P.info? ty).map (·.size) = some n)
    (h : wpList P ops Q rest (a.put o.dst (.agg (arrN n m))) w) : wpList P ops Q (o :: rest) a w :=
  wpList_step fun K hK => by rw [if_pos hw]; exact wp_load_row ty x ho g hx t (arrN n m) (0, 0) _ hh hu rfl (by rw [arrN_size]; exact hi) (hK _ _ h)
theorem wpList_store_arr {P : Program} {ops : Array Oper} {rest : List Oper} {o : Oper} {a : Act} {w : World} {Q : Exit → Act → World → Prop} (hgd : o.guard = none) (ty : TypeId) (x y : Operand) (ho : o.op = .store ty x y)
    {g t n : Nat} {m : Nat → Int} (hx : a.eval x = .pointer (some ⟨g, 0, none⟩)) (hy : a.eval y = .agg (arrN n m)) {old : Array Value} (hg : w.heap[g]? = some (.cells old t (0, 0))) (hold : old.size = n) (hi : (P.info? ty).map (·.size) = some n)
    (h : wpList P ops Q rest (a.put o.dst undef) (w.setRow g (arrN n m))) : wpList P ops Q (o :: rest) a w :=
  wpList_store_row hgd ty x y ho g (arrN n m) hx hy t old hg (by rw [arrN_size]; exact hi) (by rw [arrN_size]; exact hold) (arrN_one n m) h
theorem run_index_arr {P : Program} (t e : TypeId) (n : Nat) (m : Nat → Int) (k : Nat) (hk : k < n) (hu : P.underlying t = some (.array n e)) (hs : (P.info? e).map (·.size) = some 1) (ha : ∀ w, (isAgg e).run P w = .ok false w) (w : World) :
    (Instr.index t (.agg (arrN n m)) (.int .i64 (k : Int))).run P w = .ok (.int .i64 (m k)) w := by
  cases hi : P.info? e with
  | none => simp [hi] at hs
  | some i =>
    have hs1 : i.size = 1 := by simpa [hi] using hs
    simp [Instr.index, run_underlying hu, asIntOf, sizeOf, typeInfo, hi, hs1, hk, part, ha w, arrN_get n m k hk]

/-- a matrix whose elements are within the limits -/
def okM (m : Nat → Int) : Prop := ∀ k, k < 9 → -1048576 ≤ m k ∧ m k ≤ 1048576
instance (m : Nat → Int) : Decidable (okM m) := by unfold okM; exact Nat.decidableBallLT 9 _
def codeM (m : Nat → Int) : Int := if okM m then 0 else 2

set_option maxHeartbeats 1000000 in
theorem check_any (m : Nat → Int) (w : World) :
    Calls Try.prog 23 #[.agg (arrN 9 m)] w fun e w' => e = .returned (.int .i64 (codeM m)) ∧ Below w.heap.size w w' := by
  go_enter Try.func23, Try.ntmps23
  go_wp2_with (refine wpList_load_arr rfl 22 (.tmp 1) rfl rfl (holdsN_new _ _ _ _) Try.underlying22 (by kernel_rfl) ?_)
  go_loop [2, 4, 6] (fun _ _ v6 => ∃ k : Nat, k ≤ 9 ∧ v6 = .int .i64 k ∧ Hid (∀ j, j < k → -1048576 ≤ m j ∧ m j ≤ 1048576)) (fun _ _ i => 9 - (intOf i).toNat)
  case atStart => exact ⟨0, by omega, rfl, fun j hj => absurd hj (by omega)⟩
  case round =>
    obtain ⟨k, hk, rfl, hrg⟩ := hrel
    by_cases hk9 : k < 9
    · have hidx := run_index_arr (P := Try.prog) 22 3 9 m k hk9 Try.underlying22 (by kernel_rfl) (fun _ => by kernel_rfl)
      by_cases h1 : m k < -1048576
      · have hc : Hid (codeM m = 2) := by show _ = _; unfold codeM; rw [if_neg]; intro h; have := (h k hk9).1; omega
        go_wp2
        go_ret
        exact ⟨ret_int hc.out.symm, (Below.refl _ _).alloc (Nat.le_refl _) _⟩
      · by_cases h2 : 1048576 < m k
        · have hc : Hid (codeM m = 2) := by show _ = _; unfold codeM; rw [if_neg]; intro h; have := (h k hk9).2; omega
          go_wp2
          go_ret
          exact ⟨ret_int hc.out.symm, (Below.refl _ _).alloc (Nat.le_refl _) _⟩
        · have hrg' : Hid (∀ j, j < k + 1 → -1048576 ≤ m j ∧ m j ≤ 1048576) := by
            intro j hj
            by_cases he : j = k
            · subst he; omega
            · exact hrg.out j (by omega)
          go_wp2
          go_round
          case rel => exact ⟨k + 1, by omega, by go_num, hrg'⟩
          case measure => simp [intOf]; omega
    · obtain rfl : k = 9 := by omega
      have hc : Hid (codeM m = 0) := by show _ = _; unfold codeM; rw [if_pos]; exact hrg.out
      go_wp2
      go_ret
      exact ⟨ret_int hc.out.symm, (Below.refl _ _).alloc (Nat.le_refl _) _⟩
end Go.Proofs.Yteehnbgkgdhgaaa.Mx
