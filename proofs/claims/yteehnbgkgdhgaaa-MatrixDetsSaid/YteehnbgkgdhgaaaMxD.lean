/-
  Determinants of products of whole matrices: plain laws.
-/
import Derived.Test.YteehnbgkgdhgaaaMxU
namespace Go.Proofs.Yteehnbgkgdhgaaa.Mx
open Go.Proofs.Yteehnbgkgdhgaaa.NM
set_option linter.unusedVariables false

/-- the product of two matrices of whole numbers -/
def wmul (x y : Nat → Int) : Nat → Int := fun k => dot x y (k / 3) (k % 3) 3
def small (x : Nat → Int) : Prop := ∀ k, -2 ≤ x k ∧ x k ≤ 2
theorem mul4 {x y : Int} {a b : Int} (ha : 0 ≤ a) (hb : 0 ≤ b) (hx : -a ≤ x ∧ x ≤ a) (hy : -b ≤ y ∧ y ≤ b) : -(a * b) ≤ x * y ∧ x * y ≤ a * b := by
  have h1 : (x * y).natAbs = x.natAbs * y.natAbs := Int.natAbs_mul x y
  have h2 : x.natAbs * y.natAbs ≤ a.toNat * b.toNat := Nat.mul_le_mul (by omega) (by omega)
  have h3 : ((a.toNat * b.toNat : Nat) : Int) = a * b := by rw [Int.natCast_mul, Int.toNat_of_nonneg ha, Int.toNat_of_nonneg hb]
  omega
theorem divS_mul32 (x : Int) : divS (x * 4294967296) 4294967296 = x := by
  unfold divS
  rw [if_neg (by omega), if_neg (by omega)]
  exact fdiv_unique (r := 4294967296) (by omega) (fun _ => by omega) (fun h => by omega) (by omega)
theorem ok_whole {x : Nat → Int} (h : ∀ k, -16 ≤ x k ∧ x k ≤ 16) : okM (wholeM x) := fun k hk => by have := h k; unfold wholeM; omega
theorem exact_whole (x : Nat → Int) : exactS (wholeM x) = exactS x * 65536 * 4294967296 := by
  show x 0 * 65536 * (x 4 * 65536 * (x 8 * 65536) - x 5 * 65536 * (x 7 * 65536)) + x 1 * 65536 * (x 5 * 65536 * (x 6 * 65536) - x 3 * 65536 * (x 8 * 65536)) + x 2 * 65536 * (x 3 * 65536 * (x 7 * 65536) - x 4 * 65536 * (x 6 * 65536)) =
    (x 0 * (x 4 * x 8 - x 5 * x 7) + x 1 * (x 5 * x 6 - x 3 * x 8) + x 2 * (x 3 * x 7 - x 4 * x 6)) * 65536 * 4294967296
  grind
theorem det_whole {x : Nat → Int} (h : ∀ k, -16 ≤ x k ∧ x k ≤ 16) : detS (wholeM x) = exactS x * 65536 := by
  unfold detS
  rw [if_pos (ok_whole h), exact_whole, divS_mul32]
theorem small16 {x : Nat → Int} (h : small x) : ∀ k, -16 ≤ x k ∧ x k ≤ 16 := fun k => by have := h k; omega
theorem exact_small {x : Nat → Int} (h : small x) : -100 ≤ exactS x ∧ exactS x ≤ 100 := by
  show -100 ≤ x 0 * (x 4 * x 8 - x 5 * x 7) + x 1 * (x 5 * x 6 - x 3 * x 8) + x 2 * (x 3 * x 7 - x 4 * x 6) ∧ x 0 * (x 4 * x 8 - x 5 * x 7) + x 1 * (x 5 * x 6 - x 3 * x 8) + x 2 * (x 3 * x 7 - x 4 * x 6) ≤ 100
  have p := fun i j => mul4 (a := 2) (b := 2) (by omega) (by omega) (h i) (h j)
  have a0 := p 4 8; have a1 := p 5 7; have a2 := p 5 6; have a3 := p 3 8; have a4 := p 3 7; have a5 := p 4 6
  have b0 := mul4 (a := 2) (b := 8) (y := x 4 * x 8 - x 5 * x 7) (by omega) (by omega) (h 0) (by omega)
  have b1 := mul4 (a := 2) (b := 8) (y := x 5 * x 6 - x 3 * x 8) (by omega) (by omega) (h 1) (by omega)
  have b2 := mul4 (a := 2) (b := 8) (y := x 3 * x 7 - x 4 * x 6) (by omega) (by omega) (h 2) (by omega)
  omega
theorem wmul_small {x y : Nat → Int} (hx : small x) (hy : small y) : ∀ k, -16 ≤ wmul x y k ∧ wmul x y k ≤ 16 := by
  intro k
  have p := fun i j => mul4 (a := 2) (b := 2) (by omega) (by omega) (hx i) (hy j)
  have a0 := p (3 * (k / 3) + 0) (3 * 0 + k % 3); have a1 := p (3 * (k / 3) + 1) (3 * 1 + k % 3); have a2 := p (3 * (k / 3) + 2) (3 * 2 + k % 3)
  unfold wmul
  simp only [dot]
  omega
theorem dot_whole (x y : Nat → Int) (i j : Nat) : dot (wholeM x) (wholeM y) i j 3 = dot x y i j 3 * 65536 * 65536 := by
  simp only [dot, wholeM]
  grind
theorem mul_whole {x y : Nat → Int} (hx : small x) (hy : small y) : mulM (wholeM x) (wholeM y) = wholeM (wmul x y) := by
  unfold mulM
  rw [if_pos ⟨ok_whole (small16 hx), ok_whole (small16 hy)⟩]
  funext k
  unfold prodM
  rw [dot_whole, divS_mul]
  rfl
theorem exact_mul (a b : Nat → Int) : exactS (wmul a b) = exactS a * exactS b := by
  have e : ∀ k, wmul a b k = a (3 * (k / 3)) * b (k % 3) + a (3 * (k / 3) + 1) * b (3 + k % 3) + a (3 * (k / 3) + 2) * b (6 + k % 3) := by
    intro k
    unfold wmul
    simp only [dot]
    rw [show 3 * 0 + k % 3 = k % 3 by omega, show 3 * 1 + k % 3 = 3 + k % 3 by omega, show 3 * 2 + k % 3 = 6 + k % 3 by omega]
    rw [show 3 * (k / 3) + 0 = 3 * (k / 3) by omega]
    omega
  have e0 : wmul a b 0 = a 0 * b 0 + a 1 * b 3 + a 2 * b 6 := e 0
  have e1 : wmul a b 1 = a 0 * b 1 + a 1 * b 4 + a 2 * b 7 := e 1
  have e2 : wmul a b 2 = a 0 * b 2 + a 1 * b 5 + a 2 * b 8 := e 2
  have e3 : wmul a b 3 = a 3 * b 0 + a 4 * b 3 + a 5 * b 6 := e 3
  have e4 : wmul a b 4 = a 3 * b 1 + a 4 * b 4 + a 5 * b 7 := e 4
  have e5 : wmul a b 5 = a 3 * b 2 + a 4 * b 5 + a 5 * b 8 := e 5
  have e6 : wmul a b 6 = a 6 * b 0 + a 7 * b 3 + a 8 * b 6 := e 6
  have e7 : wmul a b 7 = a 6 * b 1 + a 7 * b 4 + a 8 * b 7 := e 7
  have e8 : wmul a b 8 = a 6 * b 2 + a 7 * b 5 + a 8 * b 8 := e 8
  have f : ∀ m : Nat → Int, exactS m = m 0 * (m 4 * m 8 - m 5 * m 7) + m 1 * (m 5 * m 6 - m 3 * m 8) + m 2 * (m 3 * m 7 - m 4 * m 6) := fun m => rfl
  rw [f, f, f, e0, e1, e2, e3, e4, e5, e6, e7, e8]
  clear e e0 e1 e2 e3 e4 e5 e6 e7 e8 f
  generalize a 0 = a0; generalize a 1 = a1; generalize a 2 = a2; generalize a 3 = a3; generalize a 4 = a4; generalize a 5 = a5; generalize a 6 = a6; generalize a 7 = a7; generalize a 8 = a8
  generalize b 0 = b0; generalize b 1 = b1; generalize b 2 = b2; generalize b 3 = b3; generalize b 4 = b4; generalize b 5 = b5; generalize b 6 = b6; generalize b 7 = b7; generalize b 8 = b8
  grind
theorem det_mul {x y : Nat → Int} (hx : small x) (hy : small y) : detS (mulM (wholeM x) (wholeM y)) = exactS x * (exactS y * 65536) := by
  rw [mul_whole hx hy, det_whole (wmul_small hx hy), exact_mul]
  grind

theorem small_tmod (a : Nat → Int) : small (fun k => (a k).tmod 3) := by
  intro k
  have h1 := (tmod_bounds (a k) 3 (by omega)).1
  show -2 ≤ (a k).tmod 3 ∧ (a k).tmod 3 ≤ 2
  omega
end Go.Proofs.Yteehnbgkgdhgaaa.Mx
