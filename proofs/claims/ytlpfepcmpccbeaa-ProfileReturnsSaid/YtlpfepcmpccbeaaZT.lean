/-
  Proved: contracts of functions of the program and of the reference, several texts of mine in one; the conditions stand at each theorem.
-/
import Derived.Test.YtlpfepcmpccbeaaZS
/-
  Numbers read from a text: the reference's Number.
-/
namespace Go.Proofs.Ytlpfepcmpccbeaa.Pt
open Go.RowKit Go.Proofs.Ytlpfepcmpccbeaa.NM Go.Proofs.Ytlpfepcmpccbeaa.Cv Go.Proofs.Ytlpfepcmpccbeaa.Wi Go.Proofs.Ytlpfepcmpccbeaa.Nm9 Go.Proofs.Ytlpfepcmpccbeaa.Mx Go.Proofs.Ytlpfepcmpccbeaa.Pf Go.Proofs.Ytlpfepcmpccbeaa.PNum Go.Proofs.YtlpfepcmpccbeaaW.PrintWords Go.Proofs.YtlpfepcmpccbeaaW.PrintMore Go.Proofs.YtlpfepcmpccbeaaW.PrintLast
set_option linter.unusedVariables false

def pw7 (i : Nat) : Int := ((128 ^ i : Nat) : Int)
/-- a byte is a wrong one -/
def badB (c : Int) (i : Nat) : Bool := (decide (i = 9) && decide (1 < c)) || (decide (0 < i) && decide (c = 0))
/-- a number from a place on: the number, the place behind it, the error -/
def numF (s : ByteArray) (a : Nat) : Nat → Nat → Int → Int × Nat × Int
  | 0, _, _ => (0, a, 4)
  | f + 1, i, n => if s.size ≤ a + i then (0, a, 5) else if badB (bt s ((a + i : Nat) : Int)) i = true then (0, a, 4)
      else if bt s ((a + i : Nat) : Int) < 128 then (n + bt s ((a + i : Nat) : Int) % 128 * pw7 i, a + i + 1, 0) else numF s a f (i + 1) (n + bt s ((a + i : Nat) : Int) % 128 * pw7 i)
def numS (s : ByteArray) (a : Nat) : Int × Nat × Int := numF s a 10 0 0
theorem pw7_succ (i : Nat) : pw7 (i + 1) = 128 * pw7 i := by
  unfold pw7; rw [Nat.pow_succ]; omega
theorem pw7_pos (i : Nat) : 0 < pw7 i := by
  unfold pw7; have : 0 < 128 ^ i := Nat.pow_pos (by omega); omega
theorem pw7_le {i : Nat} (h : i ≤ 9) : pw7 i ≤ 9223372036854775808 := by
  unfold pw7
  have : 128 ^ i ≤ 128 ^ 9 := Nat.pow_le_pow_right (by omega) h
  have e : 128 ^ 9 = 9223372036854775808 := by decide
  omega
theorem and127 (c : Int) (h : 0 ≤ c ∧ c ≤ 255) : Go.bits .and .u8 c 127 = c % 128 := by
  rw [u8_and c 127 (by omega) (by omega) (by omega) (by omega)]
  have e : ((127 : Int).toNat) = 2 ^ 7 - 1 := by decide
  rw [e, Nat.and_two_pow_sub_one_eq_mod]
  omega
theorem digit_bound {n c : Int} {i : Nat} (hn : 0 ≤ n ∧ n < pw7 i) (hc : 0 ≤ c ∧ c ≤ 255) : 0 ≤ n + c % 128 * pw7 i ∧ n + c % 128 * pw7 i < pw7 (i + 1) := by
  have hp := pw7_pos i
  rw [pw7_succ]
  have h1 : 0 ≤ c % 128 ∧ c % 128 ≤ 127 := by omega
  generalize c % 128 = d at *
  obtain ⟨d, rfl⟩ : ∃ k : Nat, d = k := ⟨d.toNat, by omega⟩
  generalize pw7 i = p at *
  obtain ⟨p, rfl⟩ : ∃ k : Nat, p = k := ⟨p.toNat, by omega⟩
  have h2 : d * p ≤ 127 * p := Nat.mul_le_mul_right _ (by omega)
  have h3 : ((d : Int) * (p : Int)) = ((d * p : Nat) : Int) := by simp
  rw [h3]
  omega
theorem or_shift (a d i : Nat) (ha : a < 2 ^ i) : a ||| d * 2 ^ i = a + d * 2 ^ i := by
  rw [Nat.or_comm, Nat.add_comm, Nat.mul_comm]
  exact (Nat.two_pow_add_eq_or_of_lt ha d).symm
theorem orshl (n c : Int) (i : Nat) (hn : 0 ≤ n ∧ n < pw7 i) (hc : 0 ≤ c ∧ c ≤ 255) (hi : i ≤ 9) (h9 : i = 9 → c ≤ 1) : Go.bits .or .u64 n (shl .u64 (c % 128) (7 * (i : Int))) = n + c % 128 * pw7 i := by
  have hb := digit_bound hn hc
  have hd : 0 ≤ c % 128 ∧ c % 128 ≤ 127 := by omega
  have hd9 : i = 9 → c % 128 ≤ 1 := fun h => by have := h9 h; omega
  generalize c % 128 = d at *
  obtain ⟨d, rfl⟩ : ∃ k : Nat, d = k := ⟨d.toNat, by omega⟩
  obtain ⟨n, rfl⟩ : ∃ k : Nat, n = k := ⟨n.toNat, by omega⟩
  have e1 : (7 * (i : Int)).toNat = 7 * i := by omega
  have e2 : min (7 * i) 64 = 7 * i := by omega
  have e3 : (2 : Int) ^ (7 * i) = pw7 i := by
    rw [Int.pow_mul]
    unfold pw7
    rw [Int.natCast_pow]
    rfl
  have hp := pw7_pos i
  have hpl := pw7_le hi
  have e4 : (d : Int) * pw7 i ≤ 9223372036854775808 := by
    by_cases h : i = 9
    · have := hd9 h
      have : (d : Int) * pw7 i ≤ 1 * pw7 i := Int.mul_le_mul_of_nonneg_right (by omega) (by omega)
      omega
    · have h8 : pw7 (i + 1) ≤ 9223372036854775808 := pw7_le (by omega)
      rw [pw7_succ] at h8
      have : (d : Int) * pw7 i ≤ 128 * pw7 i := Int.mul_le_mul_of_nonneg_right (by omega) (by omega)
      omega
  have e5 : 0 ≤ (d : Int) * pw7 i := Int.mul_nonneg (by omega) (by omega)
  have e6 : shl .u64 (d : Int) (7 * (i : Int)) = (d : Int) * pw7 i := by
    unfold shl
    rw [e1, show IntKind.u64.bits = 64 from rfl, e2, e3, IntKind.wrap_u64]
    omega
  rw [e6]
  have e7 : (d : Int) * pw7 i = ((d * 2 ^ (7 * i) : Nat) : Int) := by
    unfold pw7
    rw [Nat.pow_mul]
    simp
  rw [e7, u64_or_nat n (d * 2 ^ (7 * i)) (by omega) (by omega), or_shift]
  · simp
  · have := hn.2
    unfold pw7 at this
    rw [Nat.pow_mul]
    show n < 128 ^ i
    omega
theorem number_j1 (s : ByteArray) (a : Nat) (ha : a ≤ 140737488355232) (i k : Nat) (n c : Int) (hi : i ≤ 9) (h0 : 0 ≤ n ∧ n < pw7 i) (hbr : 0 ≤ c ∧ c ≤ 255) :
    imageeditorref09_Number.j1 (k + 1) s (a : Int) n (i : Int) c (badB c i) = if badB c i = true then some (0, (a : Int), 4) else if c < 128 then some (n + c % 128 * pw7 i, ((a + i + 1 : Nat) : Int), 0) else imageeditorref09_Number.l0 k s (a : Int) (n + c % 128 * pw7 i) ((i + 1 : Nat) : Int) := by
  have h7 : (0 : Int) ≤ 7 * (i : Int) := by omega
  rw [imageeditorref09_Number.j1]
  by_cases hb : badB c i = true
  · rw [if_pos hb, if_pos hb]
  · rw [if_neg hb, if_neg hb]
    have w1 : wrap64 ((a : Int) + (i : Int)) = ((a + i : Nat) : Int) := by rw [w64' (by omega) (by omega)]; rfl
    have w2 : IntKind.u64.wrap (i : Int) = (i : Int) := wu (by omega) (by omega)
    have w3 : IntKind.u64.wrap (7 * (i : Int)) = 7 * (i : Int) := wu (by omega) (by omega)
    have w4 : IntKind.u64.wrap (c % 128) = c % 128 := wu (by omega) (by omega)
    have w5 : wrap64 (((a + i : Nat) : Int) + 1) = ((a + i + 1 : Nat) : Int) := by rw [w64' (by omega) (by omega)]; rfl
    have w6 : wrap64 ((i : Int) + 1) = ((i + 1 : Nat) : Int) := by rw [w64' (by omega) (by omega)]; rfl
    have h9 : i = 9 → c ≤ 1 := by
      intro h
      by_cases hc : c ≤ 1
      · exact hc
      · exfalso; apply hb; unfold badB; simp [h]; omega
    rw [w2, w3, if_pos h7, and127 c hbr, w4, orshl n c i h0 hbr hi h9, w1, w5, w6]
theorem badB9 {c : Int} (h : badB c 9 = false) : c ≤ 1 := by
  unfold badB at h
  simp at h
  omega
set_option maxHeartbeats 1000000 in
theorem number_l0 (s : ByteArray) (hs : s.size ≤ 140737488355232) (a : Nat) (ha : a ≤ 140737488355232) : ∀ (f i k : Nat) (n : Int), f + 1 + i = 10 → 2 * f + 2 ≤ k → 0 ≤ n ∧ n < pw7 i →
    ∀ R, R = numF s a (f + 1) i n → imageeditorref09_Number.l0 k s (a : Int) n (i : Int) = some (R.1, (R.2.1 : Int), R.2.2) := by
  intro f
  induction f with
  | zero =>
    intro i k n hf hk h0 R hR
    obtain ⟨k, rfl⟩ : ∃ k', k = k' + 2 := ⟨k - 2, by omega⟩
    obtain rfl : i = 9 := by omega
    have w1 : wrap64 ((a : Int) + ((9 : Nat) : Int)) = ((a + 9 : Nat) : Int) := by rw [w64' (by omega) (by omega)]; rfl
    rw [imageeditorref09_Number.l0]
    simp only [w1]
    rw [numF] at hR
    by_cases hz : s.size ≤ a + 9
    · rw [if_pos hz] at hR
      rw [if_pos (show ((a + 9 : Nat) : Int) ≥ (s.size : Int) by omega), hR]
    · rw [if_neg hz] at hR
      rw [if_neg (show ¬ ((a + 9 : Nat) : Int) ≥ (s.size : Int) by omega), if_pos (show (0 : Int) ≤ ((a + 9 : Nat) : Int) by omega), if_pos (show ((a + 9 : Nat) : Int) < (s.size : Int) by omega)]
      have hbr := bt_range s ((a + 9 : Nat) : Int)
      generalize bt s ((a + 9 : Nat) : Int) = c at *
      have hj := number_j1 s a ha 9 k n c (by omega) h0 hbr
      have e1 : (if ((9 : Nat) : Int) = 9 then (if c > 1 then imageeditorref09_Number.j1 (k + 1) s (a : Int) n ((9 : Nat) : Int) c true else (if ((9 : Nat) : Int) > 0 then imageeditorref09_Number.j1 (k + 1) s (a : Int) n ((9 : Nat) : Int) c (c == 0) else imageeditorref09_Number.j1 (k + 1) s (a : Int) n ((9 : Nat) : Int) c false)) else (if ((9 : Nat) : Int) > 0 then imageeditorref09_Number.j1 (k + 1) s (a : Int) n ((9 : Nat) : Int) c (c == 0) else imageeditorref09_Number.j1 (k + 1) s (a : Int) n ((9 : Nat) : Int) c false)) = imageeditorref09_Number.j1 (k + 1) s (a : Int) n ((9 : Nat) : Int) c (badB c 9) := by
        rw [if_pos (by omega)]
        by_cases h1c : c > 1
        · rw [if_pos h1c]; congr 1; unfold badB; simp [h1c]
        · rw [if_neg h1c, if_pos (by omega)]; congr 1; unfold badB; simp [h1c]; rfl
      rw [e1, hj]
      by_cases hb : badB c 9 = true
      · rw [if_pos hb] at hR; rw [if_pos hb, hR]
      · rw [if_neg hb] at hR; rw [if_neg hb]
        have := badB9 (by simpa using hb)
        rw [if_pos (by omega)] at hR; rw [if_pos (by omega), hR]
  | succ f ih =>
    intro i k n hf hk h0 R hR
    obtain ⟨k, rfl⟩ : ∃ k', k = k' + 2 := ⟨k - 2, by omega⟩
    have w1 : wrap64 ((a : Int) + (i : Int)) = ((a + i : Nat) : Int) := by rw [w64' (by omega) (by omega)]; rfl
    rw [imageeditorref09_Number.l0]
    simp only [w1]
    rw [numF] at hR
    by_cases hz : s.size ≤ a + i
    · rw [if_pos hz] at hR
      rw [if_pos (show ((a + i : Nat) : Int) ≥ (s.size : Int) by omega), hR]
    · rw [if_neg hz] at hR
      rw [if_neg (show ¬ ((a + i : Nat) : Int) ≥ (s.size : Int) by omega), if_pos (show (0 : Int) ≤ ((a + i : Nat) : Int) by omega), if_pos (show ((a + i : Nat) : Int) < (s.size : Int) by omega)]
      have hbr := bt_range s ((a + i : Nat) : Int)
      generalize bt s ((a + i : Nat) : Int) = c at *
      have hj := number_j1 s a ha i k n c (by omega) h0 hbr
      rw [if_neg (show ¬ (i : Int) = 9 by omega)]
      have e1 : (if (i : Int) > 0 then imageeditorref09_Number.j1 (k + 1) s (a : Int) n (i : Int) c (c == 0) else imageeditorref09_Number.j1 (k + 1) s (a : Int) n (i : Int) c false) = imageeditorref09_Number.j1 (k + 1) s (a : Int) n (i : Int) c (badB c i) := by
        by_cases hi : 0 < i
        · rw [if_pos (by omega)]; congr 1; unfold badB; simp [hi, show i ≠ 9 by omega]; rfl
        · rw [if_neg (by omega)]; congr 1; unfold badB; simp [hi, show i ≠ 9 by omega]
      rw [e1, hj]
      by_cases hb : badB c i = true
      · rw [if_pos hb] at hR; rw [if_pos hb, hR]
      · rw [if_neg hb] at hR; rw [if_neg hb]
        by_cases hc : c < 128
        · rw [if_pos hc] at hR; rw [if_pos hc, hR]
        · rw [if_neg hc] at hR; rw [if_neg hc]
          exact ih (i + 1) k _ (by omega) (by omega) (digit_bound h0 hbr) R hR
theorem number_any (s : ByteArray) (a : Nat) (w : World) (hs : s.size ≤ 140737488355232) (ha : a ≤ 140737488355232) :
    Calls Try.prog 65 #[.string s, .int .i64 (a : Int)] w fun e w' => e = .returned (.tuple #[.int .u64 (numS s a).1, .int .i64 ((numS s a).2.1 : Int), .int .i64 (numS s a).2.2]) ∧ Drawn0 w w' :=
  imageeditorref09_Number.calls 21 s (a : Int) _ _ _ w (number_l0 s hs a ha 9 0 21 0 (by omega) (by omega) ⟨by omega, pw7_pos 0⟩ (numS s a) rfl)
end Go.Proofs.Ytlpfepcmpccbeaa.Pt
/-
  The reader: right, Err, Uint.
-/
namespace Go.Proofs.Ytlpfepcmpccbeaa.Pt
open Go.RowKit Go.Proofs.Ytlpfepcmpccbeaa.NM Go.Proofs.Ytlpfepcmpccbeaa.Cv Go.Proofs.Ytlpfepcmpccbeaa.Wi Go.Proofs.Ytlpfepcmpccbeaa.Nm9 Go.Proofs.Ytlpfepcmpccbeaa.Mx Go.Proofs.Ytlpfepcmpccbeaa.Pf Go.Proofs.Ytlpfepcmpccbeaa.PNum Go.Proofs.YtlpfepcmpccbeaaW.PrintWords Go.Proofs.YtlpfepcmpccbeaaW.PrintMore Go.Proofs.YtlpfepcmpccbeaaW.PrintLast
set_option linter.unusedVariables false

/-- the cells of a reader -/
def rdC (s : ByteArray) (a : Nat) (e : Int) : Array Value := #[.string s, .int .i64 (a : Int), .int .i64 e, .bool true]
/-- nothing but block g has changed -/
def But (g : Nat) (w w' : World) : Prop := (w'.os = w.os ∧ w'.tape = w.tape ∧ w'.output = w.output) ∧ w.heap.size ≤ w'.heap.size ∧ ∀ k, k < w.heap.size → k ≠ g → w'.heap[k]? = w.heap[k]?
theorem But.refl (g : Nat) (w : World) : But g w w := ⟨⟨rfl, rfl, rfl⟩, Nat.le_refl _, fun _ _ _ => rfl⟩
theorem But.trans {g : Nat} {a b c : World} (h : But g a b) (k : But g b c) : But g a c :=
  ⟨⟨k.1.1.trans h.1.1, k.1.2.1.trans h.1.2.1, k.1.2.2.trans h.1.2.2⟩, Nat.le_trans h.2.1 k.2.1, fun i hi hg => (k.2.2 i (Nat.lt_of_lt_of_le hi h.2.1) hg).trans (h.2.2 i hi hg)⟩
theorem But.drewN {g : Nat} {a b : World} (h : But g a b) (n : Nat) : But g a (b.drewN n) := h
theorem But.row {g : Nat} {a b : World} (h : But g a b) (c : Array Value) : But g a (b.setRow g c) :=
  ⟨h.1, by simpa [World.setRow] using h.2.1, fun k hk hg => by
    rw [← h.2.2 k hk hg]
    simp only [World.setRow]
    rw [Array.getElem?_modify, if_neg (by omega)]⟩
theorem But.below {g B : Nat} {a b c : World} (h : But g b c) (hb : Below B a b) (hg : B ≤ g) (hB : B ≤ b.heap.size) : Below B a c :=
  ⟨h.1.1.trans hb.os, h.1.2.1.trans hb.tape, h.1.2.2.trans hb.output, Nat.le_trans hb.size h.2.1, fun k hk => (h.2.2 k (by omega) (by omega)).trans (hb.block k hk)⟩
theorem But.kept {g q t : Nat} {a b : World} {c : Array Value} (h : But g a b) (hh : holdsC a q t c) (hne : q ≠ g) : holdsC b q t c := by
  have := hh.lt
  unfold holdsC
  rw [h.2.2 q this hne]; exact hh
def rU (s : ByteArray) (a : Nat) (e : Int) : Int × Nat × Int := if e = 0 then numS s a else (0, a, e)
theorem right_any (s : ByteArray) (a : Nat) (e : Int) (g : Nat) (w : World) (h : holdsC w g 101 (rdC s a e)) :
    Calls Try.prog 88 #[.pointer (some ⟨g, 0, none⟩)] w fun en w' => en = .returned (.bool (e == 0)) ∧ w' = w := by
  have c3 := h.cell 3 (.bool true) rfl
  have c2 := h.cell 2 (.int .i64 e) rfl
  go_enter Try.func88, Try.ntmps88
  go_wp2
  go_ret
  exact ⟨rfl, rfl⟩
theorem err_any (s : ByteArray) (a : Nat) (e : Int) (g : Nat) (w : World) (h : holdsC w g 101 (rdC s a e)) :
    Calls Try.prog 90 #[.pointer (some ⟨g, 0, none⟩)] w fun en w' => en = .returned (.int .i64 e) ∧ w' = w := by
  have c3 := h.cell 3 (.bool true) rfl
  have c2 := h.cell 2 (.int .i64 e) rfl
  go_enter Try.func90, Try.ntmps90
  go_wp2
  go_ret
  exact ⟨rfl, rfl⟩
theorem holdsC_free {w : World} {g t : Nat} {c : Array Value} (h : holdsC w g t c) (k : Nat) : w.frozen? ⟨g, k, none⟩ = false := by
  have h' : w.heap[g]? = some (.cells c t (0, 0)) := h
  simp [World.frozen?, h']
theorem holdsC_set {w : World} {g t : Nat} {c : Array Value} (h : holdsC w g t c) (k : Nat) (v : Value) : holdsC (w.setCell ⟨g, k, none⟩ v) g t (c.setIfInBounds k v) := by
  unfold holdsC
  rw [setCell_eq_setRow w g k _ t _ _ h, setRow_heap w g _ _ t _ h]
theorem But.cell {g : Nat} {a b : World} (h : But g a b) (k : Nat) (v : Value) : But g a (b.setCell ⟨g, k, none⟩ v) :=
  ⟨h.1, by simpa [World.setCell] using h.2.1, fun j hj hg => by
    rw [← h.2.2 j hj hg]
    simp only [World.setCell]
    rw [Array.getElem?_modify, if_neg (by omega)]⟩
theorem orshl' (n c : Int) (i : Nat) (hn : 0 ≤ n ∧ n < pw7 i) (hc : 0 ≤ c ∧ c ≤ 255) (hi : i ≤ 9) (h9 : i = 9 → c ≤ 1) : Go.bits .or .u64 n (IntKind.u64.wrap (c % 128 * 2 ^ (7 * (i : Int)).toNat)) = n + c % 128 * pw7 i := by
  have h := orshl n c i hn hc hi h9
  unfold shl at h
  rwa [show min (7 * (i : Int)).toNat IntKind.u64.bits = (7 * (i : Int)).toNat from (by show min _ 64 = _; omega)] at h
theorem numF_succ (s : ByteArray) (a f i : Nat) (n : Int) : numF s a (f + 1) i n = if s.size ≤ a + i then (0, a, 5) else if badB (bt s ((a + i : Nat) : Int)) i = true then (0, a, 4)
      else if bt s ((a + i : Nat) : Int) < 128 then (n + bt s ((a + i : Nat) : Int) % 128 * pw7 i, a + i + 1, 0) else numF s a f (i + 1) (n + bt s ((a + i : Nat) : Int) % 128 * pw7 i) := (Eq.refl _).trans rfl
set_option maxRecDepth 20000 in
set_option maxHeartbeats 4000000 in
theorem uint_ok (s : ByteArray) (a : Nat) (g : Nat) (w : World) (hs : s.size ≤ 140737488355232) (ha : a ≤ 140737488355232) (h : holdsC w g 101 (rdC s a 0)) :
    Calls Try.prog 89 #[.pointer (some ⟨g, 0, none⟩)] w fun en w' => en = .returned (.int .u64 (numS s a).1) ∧ holdsC w' g 101 (rdC s (numS s a).2.1 (numS s a).2.2) ∧ But g w w' := by
  have HN : Hid (numS s a = numF s a (10 - 0) 0 0) := rfl
  go_enter Try.func89, Try.ntmps89
  go_wp2_with fail
  refine (right_any s a 0 g w h).mono ?_; rintro e w' ⟨rfl, rfl⟩
  have c1 := h.cell 1 (.int .i64 (a : Int)) rfl
  go_wp2
  go_quiet (fail)
  have h1 : holdsC (w'.drewN nq) g 101 (rdC s a 0) := h
  have hb : But g w' (w'.drewN nq) := (But.refl g w').drewN nq
  clear c1
  go_wp2_with fail
  go_loopw [2, 3, 4, 5, 6, 14] (fun _ v3 v4 _ _ v14 wr => ∃ (i : Nat) (n : Int), i ≤ 10 ∧ v14 = .int .i64 i ∧ v3 = .int .u64 n ∧ v4 = .int .i64 ((a + i : Nat) : Int) ∧ Hid (0 ≤ n ∧ n < pw7 i) ∧ Hid (numS s a = numF s a (10 - i) i n) ∧ holdsC wr g 101 (rdC s a 0) ∧ But g w' wr) (fun _ _ _ _ _ v _ => 10 - (intOf v).toNat)
  case atStart => exact ⟨0, 0, by omega, rfl, rfl, rfl, ⟨by omega, pw7_pos 0⟩, HN, h1, hb⟩
  case round =>
    obtain ⟨i, n, hi, rfl, rfl, rfl, hn, HQ, x, xb⟩ := hrel
    clear h1 hb HN
    have c2 := x.cell 2 (.int .i64 0) rfl
    have f2 := holdsC_free x 2
    have c1 := x.cell 1 (.int .i64 (a : Int)) rfl
    have f1 := holdsC_free x 1
    by_cases hi10 : i < 10
    · have hd : decide ((i : Int) < 10) = true := decide_eq_true (by omega)
      have h10 : 10 - i = (10 - (i + 1)) + 1 := by omega
      rw [h10, numF_succ] at HQ
      have c0 := x.cell 0 (.string s) rfl
      by_cases hz : s.size ≤ a + i
      · have hd2 : decide ((s.size : Int) ≤ ((a + i : Nat) : Int)) = true := decide_eq_true (by omega)
        have HR : Hid (numS s a = (0, a, 5)) := by show _ = _; rw [HQ.out, if_pos hz]
        clear HQ
        go_wp2
        go_ret
        exact ⟨by rw [HR.out]; rfl, by rw [HR.out]; exact holdsC_set x 2 _, xb.cell 2 _⟩
      · have hd2 : decide ((s.size : Int) ≤ ((a + i : Nat) : Int)) = false := decide_eq_false (by omega)
        rw [if_neg hz] at HQ
        have q1 : (0 ≤ ((a + i : Nat) : Int)) = True := eq_true (by omega)
        have q2 : (((a + i : Nat) : Int) < (s.size : Int)) = True := eq_true (by omega)
        have hbt := bt_at s ((a + i : Nat) : Int)
        have hbr := bt_range s ((a + i : Nat) : Int)
        generalize hc : bt s ((a + i : Nat) : Int) = c at *
        clear hc
        have q3 : -4 ≤ ((a + i : Nat) : Int) ∧ ((a + i : Nat) : Int) ≤ 281474976710656 := by omega
        have q4 : (0 : Int) ≤ (i : Int) ∧ (i : Int) ≤ 9 := by omega
        have HJ1 : Hid (((a + i : Nat) : Int) + 1 = ((a + (i + 1) : Nat) : Int)) := by show _ = _; omega
        have HI1 : Hid ((i : Int) + 1 = ((i + 1 : Nat) : Int)) := by show _ = _; omega
        have HHI := Lib.hid hi10
        have HH10 := Lib.hid h10
        have HHZ := Lib.hid hz
        clear hi hi10 h10 hz
        by_cases h9 : i = 9
        · have e1 : ((i : Int) == 9) = true := by simp; omega
          have H9 := Lib.hid h9
          have e4 : decide (0 < (i : Int)) = true := decide_eq_true (by omega)
          by_cases h1c : 1 < c
          · have e2 : decide (1 < c) = true := decide_eq_true h1c
            have HR : Hid (numS s a = (0, a, 4)) := by show _ = _; rw [HQ.out, if_pos (by unfold badB; simp [h9, h1c])]
            clear HQ h9
            generalize hJ : ((a + i : Nat) : Int) = J at *
            have HJ := Lib.hid hJ
            clear hJ
            generalize hI : (i : Int) = I at *
            have HI := Lib.hid hI
            clear hI
            go_wp2
            go_ret
            exact ⟨by rw [HR.out]; rfl, by rw [HR.out]; exact holdsC_set x 2 _, xb.cell 2 _⟩
          · have e2 : decide (1 < c) = false := decide_eq_false h1c
            by_cases h0c : c = 0
            · have e3 : (c == 0) = true := by simpa using h0c
              have HR : Hid (numS s a = (0, a, 4)) := by show _ = _; rw [HQ.out, if_pos (by unfold badB; simp [h9, h0c])]
              clear HQ h9
              generalize hJ : ((a + i : Nat) : Int) = J at *
              have HJ := Lib.hid hJ
              clear hJ
              generalize hI : (i : Int) = I at *
              have HI := Lib.hid hI
              clear hI
              go_wp2
              go_ret
              exact ⟨by rw [HR.out]; rfl, by rw [HR.out]; exact holdsC_set x 2 _, xb.cell 2 _⟩
            · have e3 : (c == 0) = false := by simpa using h0c
              rw [if_neg (show ¬ badB c i = true by unfold badB; simp [h9, h0c, h1c])] at HQ
              have k9 : i = 9 → c ≤ 1 := by intro hh; omega
              have a1 := and127 c hbr
              have a4 : IntKind.u64.wrap (c % 128) = c % 128 := wu (by omega) (by omega)
              have A5 := Lib.hid (orshl' n c i hn.out hbr (by omega) k9)
              have A6 := Lib.hid (digit_bound hn.out hbr)
              clear h9 k9
              skip
              by_cases hc : c < 128
              · have hc' : decide (c < 128) = true := decide_eq_true hc
                have HR : Hid (numS s a = (n + c % 128 * pw7 i, a + i + 1, 0)) := by show _ = _; rw [HQ.out, if_pos hc]
                generalize hJ : ((a + i : Nat) : Int) = J at *
                have HJ := Lib.hid hJ
                clear hJ
                generalize hI : (i : Int) = I at *
                have HI := Lib.hid hI
                clear hI
                go_wp2
                go_ret
                exact ⟨by rw [HR.out, ← A5.out]; rfl, by rw [HR.out]; have := holdsC_set x 1 (.int .i64 (J + 1)); rw [HJ1.out] at this ⊢; exact this, xb.cell 1 _⟩
              · exfalso; omega
        · have e1 : ((i : Int) == 9) = false := by simp; omega
          have H9 := Lib.hid h9
          by_cases h0c : c = 0
          · have e3 : (c == 0) = true := by simpa using h0c
            by_cases hi0 : 0 < i
            · have e4 : decide (0 < (i : Int)) = true := decide_eq_true (by omega)
              have HR : Hid (numS s a = (0, a, 4)) := by show _ = _; rw [HQ.out, if_pos (by unfold badB; simp [h9, h0c, hi0])]
              clear HQ h9
              generalize hJ : ((a + i : Nat) : Int) = J at *
              have HJ := Lib.hid hJ
              clear hJ
              generalize hI : (i : Int) = I at *
              have HI := Lib.hid hI
              clear hI
              go_wp2
              go_ret
              exact ⟨by rw [HR.out]; rfl, by rw [HR.out]; exact holdsC_set x 2 _, xb.cell 2 _⟩
            · have e4 : decide (0 < (i : Int)) = false := decide_eq_false (by omega)
              rw [if_neg (show ¬ badB c i = true by unfold badB; simp [h9, hi0])] at HQ
              have k9 : i = 9 → c ≤ 1 := by intro hh; exact absurd hh h9
              have a1 := and127 c hbr
              have a4 : IntKind.u64.wrap (c % 128) = c % 128 := wu (by omega) (by omega)
              have A5 := Lib.hid (orshl' n c i hn.out hbr (by omega) k9)
              have A6 := Lib.hid (digit_bound hn.out hbr)
              clear h9 k9
              have H0 := Lib.hid h0c
              have h1c : c < 128 := by omega
              clear h0c
              by_cases hc : c < 128
              · have hc' : decide (c < 128) = true := decide_eq_true hc
                have HR : Hid (numS s a = (n + c % 128 * pw7 i, a + i + 1, 0)) := by show _ = _; rw [HQ.out, if_pos hc]
                generalize hJ : ((a + i : Nat) : Int) = J at *
                have HJ := Lib.hid hJ
                clear hJ
                generalize hI : (i : Int) = I at *
                have HI := Lib.hid hI
                clear hI
                go_wp2
                go_ret
                exact ⟨by rw [HR.out, ← A5.out]; rfl, by rw [HR.out]; have := holdsC_set x 1 (.int .i64 (J + 1)); rw [HJ1.out] at this ⊢; exact this, xb.cell 1 _⟩
              · exfalso; omega
          · have e3 : (c == 0) = false := by simpa using h0c
            rw [if_neg (show ¬ badB c i = true by unfold badB; simp [h9, h0c])] at HQ
            have k9 : i = 9 → c ≤ 1 := by intro hh; exact absurd hh h9
            have a1 := and127 c hbr
            have a4 : IntKind.u64.wrap (c % 128) = c % 128 := wu (by omega) (by omega)
            have A5 := Lib.hid (orshl' n c i hn.out hbr (by omega) k9)
            have A6 := Lib.hid (digit_bound hn.out hbr)
            clear h9 k9
            skip
            by_cases hc : c < 128
            · have hc' : decide (c < 128) = true := decide_eq_true hc
              have HR : Hid (numS s a = (n + c % 128 * pw7 i, a + i + 1, 0)) := by show _ = _; rw [HQ.out, if_pos hc]
              generalize hJ : ((a + i : Nat) : Int) = J at *
              have HJ := Lib.hid hJ
              clear hJ
              generalize hI : (i : Int) = I at *
              have HI := Lib.hid hI
              clear hI
              go_wp2
              go_ret
              exact ⟨by rw [HR.out, ← A5.out]; rfl, by rw [HR.out]; have := holdsC_set x 1 (.int .i64 (J + 1)); rw [HJ1.out] at this ⊢; exact this, xb.cell 1 _⟩
            · have hc' : decide (c < 128) = false := decide_eq_false hc
              have HR : Hid (numS s a = numF s a (10 - (i + 1)) (i + 1) (n + c % 128 * pw7 i)) := by show _ = _; rw [HQ.out, if_neg hc]
              generalize hJ : ((a + i : Nat) : Int) = J at *
              have HJ := Lib.hid hJ
              clear hJ
              generalize hI : (i : Int) = I at *
              have HI := Lib.hid hI
              clear hI
              go_wp2
              go_roundw
              case rel => exact ⟨i + 1, _, HHI.out, by rw [HI1.out], by rw [A5.out], by rw [HJ1.out], A6, HR, x, xb⟩
              case measure => rw [← HI.out]; have := HHI.out; simp [intOf]; omega
    · have hd : decide ((i : Int) < 10) = false := decide_eq_false (by omega)
      have HR : Hid (numS s a = (0, a, 4)) := by show _ = _; rw [HQ.out, show 10 - i = 0 by omega]; rfl
      go_wp2
      go_ret
      exact ⟨by rw [HR.out]; rfl, by rw [HR.out]; exact holdsC_set x 2 _, xb.cell 2 _⟩
end Go.Proofs.Ytlpfepcmpccbeaa.Pt
/-
  The reader: Uint with an error, Int, Count, Text, End.
-/
namespace Go.Proofs.Ytlpfepcmpccbeaa.Pt
open Go.RowKit Go.Proofs.Ytlpfepcmpccbeaa.NM Go.Proofs.Ytlpfepcmpccbeaa.Cv Go.Proofs.Ytlpfepcmpccbeaa.Wi Go.Proofs.Ytlpfepcmpccbeaa.Nm9 Go.Proofs.Ytlpfepcmpccbeaa.Mx Go.Proofs.Ytlpfepcmpccbeaa.Pf Go.Proofs.Ytlpfepcmpccbeaa.PNum Go.Proofs.YtlpfepcmpccbeaaW.PrintWords Go.Proofs.YtlpfepcmpccbeaaW.PrintMore Go.Proofs.YtlpfepcmpccbeaaW.PrintLast
set_option linter.unusedVariables false

theorem numF_range (s : ByteArray) (a : Nat) : ∀ (f i : Nat) (n : Int), f + i = 10 → 0 ≤ n ∧ n < pw7 i → (0 ≤ (numF s a f i n).1 ∧ (numF s a f i n).1 < 18446744073709551616) ∧ ((numF s a f i n).2.2 = 0 → a < (numF s a f i n).2.1 ∧ (numF s a f i n).2.1 ≤ s.size) ∧ ((numF s a f i n).2.2 ≠ 0 → (numF s a f i n).1 = 0 ∧ (numF s a f i n).2.1 = a) ∧ ((numF s a f i n).2.2 = 0 ∨ (numF s a f i n).2.2 = 4 ∨ (numF s a f i n).2.2 = 5)
  | 0, i, n, hf, hn => by simp [numF]
  | f + 1, i, n, hf, hn => by
    rw [numF_succ]
    by_cases hz : s.size ≤ a + i
    · rw [if_pos hz]; simp
    · rw [if_neg hz]
      have hbr := bt_range s ((a + i : Nat) : Int)
      generalize bt s ((a + i : Nat) : Int) = c at *
      by_cases hb : badB c i = true
      · rw [if_pos hb]; simp
      · rw [if_neg hb]
        have hd := digit_bound hn hbr
        by_cases hc : c < 128
        · rw [if_pos hc]
          refine ⟨⟨hd.1, ?_⟩, fun _ => ⟨by show a < a + i + 1; omega, by show a + i + 1 ≤ _; omega⟩, fun h => absurd rfl h, .inl rfl⟩
          show n + c % 128 * pw7 i < _
          by_cases h9 : i = 9
          · have h1 : c ≤ 1 := by
              subst h9
              exact badB9 (by simpa using hb)
            have h2 : c % 128 ≤ 1 := by omega
            have h3 : pw7 i ≤ 9223372036854775808 := pw7_le (by omega)
            have h4 : c % 128 * pw7 i ≤ 1 * pw7 i := Int.mul_le_mul_of_nonneg_right h2 (by have := pw7_pos i; omega)
            omega
          · have h3 : pw7 (i + 1) ≤ 9223372036854775808 := pw7_le (by omega)
            omega
        · rw [if_neg hc]
          exact numF_range s a f (i + 1) _ (by omega) hd
theorem numS_range (s : ByteArray) (a : Nat) : (0 ≤ (numS s a).1 ∧ (numS s a).1 < 18446744073709551616) ∧ ((numS s a).2.2 = 0 → a < (numS s a).2.1 ∧ (numS s a).2.1 ≤ s.size) ∧ ((numS s a).2.2 ≠ 0 → (numS s a).1 = 0 ∧ (numS s a).2.1 = a) ∧ ((numS s a).2.2 = 0 ∨ (numS s a).2.2 = 4 ∨ (numS s a).2.2 = 5) :=
  numF_range s a 10 0 0 (by omega) ⟨by omega, pw7_pos 0⟩
theorem uint_rd (s : ByteArray) (a : Nat) (e : Int) (g : Nat) (w : World) (hs : s.size ≤ 140737488355232) (ha : a ≤ 140737488355232) (h : holdsC w g 101 (rdC s a e)) :
    Calls Try.prog 89 #[.pointer (some ⟨g, 0, none⟩)] w fun en w' => en = .returned (.int .u64 (rU s a e).1) ∧ holdsC w' g 101 (rdC s (rU s a e).2.1 (rU s a e).2.2) ∧ But g w w' := by
  by_cases he : e = 0
  · subst he
    have hr : rU s a 0 = numS s a := if_pos rfl
    rw [hr]
    exact uint_ok s a g w hs ha h
  · have hr : rU s a e = (0, a, e) := if_neg he
    have he' : (e == 0) = false := by simpa using he
    rw [hr]
    go_enter Try.func89, Try.ntmps89
    go_wp2_with fail
    refine (right_any s a e g w h).mono ?_; rintro e w' ⟨rfl, rfl⟩
    go_wp2
    go_ret
    exact ⟨rfl, h, But.refl g _⟩
/-- a number with a sign, from one without -/
def unz (u : Int) : Int := if u % 2 = 1 then -(u / 2) - 1 else u / 2
theorem and1 (u : Int) (h0 : 0 ≤ u) (h1 : u < 18446744073709551616) : Go.bits .and .u64 u 1 = u % 2 := by
  rw [u64_and u 1 h0 h1 (by omega) (by omega)]
  have e : ((1 : Int).toNat) = 2 ^ 1 - 1 := by decide
  rw [e, Nat.and_two_pow_sub_one_eq_mod]
  omega
theorem rU_range (s : ByteArray) (a : Nat) (e : Int) : 0 ≤ (rU s a e).1 ∧ (rU s a e).1 < 18446744073709551616 := by
  unfold rU
  split
  · exact (numS_range s a).1
  · exact ⟨by show (0 : Int) ≤ 0; omega, by show (0 : Int) < _; omega⟩
theorem noti64 (x : Nat) (h : x < 9223372036854775808) : Go.bits .xor .i64 (-1) (x : Int) = -(x : Int) - 1 := by
  show IntKind.i64.wrap ((BitVec.ofInt 64 (-1) ^^^ BitVec.ofInt 64 (x : Int)).toNat : Int) = _
  rw [BitVec.toNat_xor, show (BitVec.ofInt 64 (-1)).toNat = 18446744073709551615 by decide, BitVec.ofInt_natCast, BitVec.toNat_ofNat, Nat.mod_eq_of_lt (by omega), xorMax x (by omega), IntKind.wrap_i64]
  omega
theorem noti64' (u : Int) (h0 : 0 ≤ u) (h1 : u < 18446744073709551616) : Go.bits .xor .i64 (-1) (u / 2) = -(u / 2) - 1 := by
  obtain ⟨x, hx⟩ : ∃ x : Nat, u / 2 = x := ⟨(u / 2).toNat, by omega⟩
  rw [hx]
  exact noti64 x (by omega)
set_option maxHeartbeats 1000000 in
theorem int_rd (s : ByteArray) (a : Nat) (e : Int) (g : Nat) (w : World) (hs : s.size ≤ 140737488355232) (ha : a ≤ 140737488355232) (h : holdsC w g 101 (rdC s a e)) :
    Calls Try.prog 63 #[.pointer (some ⟨g, 0, none⟩)] w fun en w' => en = .returned (.int .i64 (unz (rU s a e).1)) ∧ holdsC w' g 101 (rdC s (rU s a e).2.1 (rU s a e).2.2) ∧ But g w w' := by
  have HU := Lib.hid (uint_rd s a e g w hs ha h)
  obtain ⟨u0, u1⟩ := rU_range s a e
  generalize rU s a e = R at *
  obtain ⟨u, R2⟩ := R
  have a1 := and1 u u0 u1
  have HZ : Hid (unz u = if u % 2 = 1 then -(u / 2) - 1 else u / 2) := rfl
  go_enter Try.func63, Try.ntmps63
  go_wp2_with fail
  refine HU.out.mono ?_; rintro e w' ⟨rfl, h', hB⟩
  by_cases hp : u % 2 = 1
  · have hb : (u % 2 == 1) = true := by simpa using hp
    go_wp2
    go_ret
    exact ⟨by rw [HZ.out, if_pos hp, ← noti64' u u0 u1]; rfl, h', hB⟩
  · have hb : (u % 2 == 1) = false := by simpa using hp
    go_wp2
    go_ret
    exact ⟨by rw [HZ.out, if_neg hp]; rfl, h', hB⟩
def rC (s : ByteArray) (a : Nat) (e most : Int) : Int × Nat × Int := if (rU s a e).2.2 = 0 then (if most < (rU s a e).1 then (0, (rU s a e).2.1, 3) else rU s a e) else (0, (rU s a e).2.1, (rU s a e).2.2)
set_option maxHeartbeats 1000000 in
theorem count_rd (s : ByteArray) (a : Nat) (e most : Int) (g : Nat) (w : World) (hs : s.size ≤ 140737488355232) (ha : a ≤ 140737488355232) (hm : 0 ≤ most ∧ most ≤ 1000) (h : holdsC w g 101 (rdC s a e)) :
    Calls Try.prog 62 #[.pointer (some ⟨g, 0, none⟩), .int .i64 most] w fun en w' => en = .returned (.int .i64 (rC s a e most).1) ∧ holdsC w' g 101 (rdC s (rC s a e most).2.1 (rC s a e most).2.2) ∧ But g w w' := by
  have HU := Lib.hid (uint_rd s a e g w hs ha h)
  obtain ⟨u0, u1⟩ := rU_range s a e
  have HZ : Hid (rC s a e most = if (rU s a e).2.2 = 0 then (if most < (rU s a e).1 then (0, (rU s a e).2.1, 3) else rU s a e) else (0, (rU s a e).2.1, (rU s a e).2.2)) := rfl
  generalize rU s a e = R at *
  obtain ⟨u, b, d⟩ := R
  have m1 : IntKind.u64.wrap most = most := wu (by omega) (by omega)
  have m2 : max most 0 = most := by omega
  go_enter Try.func62, Try.ntmps62
  go_wp2_with fail
  refine HU.out.mono ?_; rintro en w1 ⟨rfl, h', hB⟩
  go_wp2_with fail
  refine (right_any s b d g w1 h').mono ?_; rintro en w' ⟨rfl, rfl⟩
  by_cases hd : d = 0
  · have hd' : (d == 0) = true := by simpa using hd
    by_cases hu : most < u
    · have hu' : decide (most < u) = true := decide_eq_true hu
      have c2 := h'.cell 2 (.int .i64 d) rfl
      have f2 := holdsC_free h' 2
      have HR : Hid (rC s a e most = (0, b, 3)) := by show _ = _; rw [HZ.out, if_pos hd, if_pos hu]
      go_wp2
      go_ret
      exact ⟨by rw [HR.out]; rfl, by rw [HR.out]; exact holdsC_set h' 2 _, hB.cell 2 _⟩
    · have hu' : decide (most < u) = false := decide_eq_false hu
      have HR : Hid (rC s a e most = (u, b, d)) := by show _ = _; rw [HZ.out, if_pos hd, if_neg hu]
      go_wp2
      go_ret
      exact ⟨by rw [HR.out]; rfl, by rw [HR.out]; exact h', hB⟩
  · have hd' : (d == 0) = false := by simpa using hd
    have HR : Hid (rC s a e most = (0, b, d)) := by show _ = _; rw [HZ.out, if_neg hd]
    go_wp2
    go_ret
    exact ⟨by rw [HR.out]; rfl, by rw [HR.out]; exact h', hB⟩
set_option maxHeartbeats 1000000 in
theorem end_rd (s : ByteArray) (a : Nat) (e : Int) (g : Nat) (w : World) (h : holdsC w g 101 (rdC s a e)) :
    Calls Try.prog 64 #[.pointer (some ⟨g, 0, none⟩)] w fun en w' => en = .returned (.int .i64 (if e = 0 then (if a < s.size then 6 else 0) else e)) ∧ Drawn0 w w' := by
  go_enter Try.func64, Try.ntmps64
  go_wp2_with fail
  refine (err_any s a e g w h).mono ?_; rintro en w' ⟨rfl, rfl⟩
  by_cases he : e = 0
  · have he' : (e == 0) = true := by simpa using he
    have c0 := h.cell 0 (.string s) rfl
    have c1 := h.cell 1 (.int .i64 (a : Int)) rfl
    by_cases hz : a < s.size
    · have hz' : decide ((a : Int) < (s.size : Int)) = true := decide_eq_true (by omega)
      go_wp2
      go_quiet (fail)
      go_wp2
      go_ret
      exact ⟨rfl, ⟨_, rfl⟩⟩
    · have hz' : decide ((a : Int) < (s.size : Int)) = false := decide_eq_false (by omega)
      go_wp2
      go_quiet (fail)
      go_wp2
      go_ret
      exact ⟨rfl, ⟨_, rfl⟩⟩
  · have he' : (e == 0) = false := by simpa using he
    go_wp2
    go_ret
    exact ⟨rfl, ⟨0, rfl⟩⟩
def rT (s : ByteArray) (a : Nat) (e most : Int) : ByteArray × Nat × Int := if (rC s a e most).2.2 = 0 then (if (s.size : Int) - ((rC s a e most).2.1 : Int) < (rC s a e most).1 then (⟨#[]⟩, (rC s a e most).2.1, 5) else (s.extract (rC s a e most).2.1 ((rC s a e most).2.1 + (rC s a e most).1.toNat), (rC s a e most).2.1 + (rC s a e most).1.toNat, 0)) else (⟨#[]⟩, (rC s a e most).2.1, (rC s a e most).2.2)
theorem rC_range (s : ByteArray) (a : Nat) (e most : Int) (h : (rC s a e most).2.2 = 0) : e = 0 ∧ 0 ≤ (rC s a e most).1 ∧ (rC s a e most).1 ≤ most ∧ (rC s a e most).2.1 ≤ s.size ∧ rC s a e most = numS s a := by
  obtain ⟨h1, h2, h3, h4⟩ := numS_range s a
  unfold rC at h ⊢
  by_cases he : e = 0
  · have hr : rU s a e = numS s a := by unfold rU; rw [if_pos he]
    rw [hr] at h ⊢
    by_cases h0 : (numS s a).2.2 = 0
    · rw [if_pos h0] at h ⊢
      by_cases hm : most < (numS s a).1
      · rw [if_pos hm] at h; exact absurd h (show ¬ (3 : Int) = 0 by omega)
      · rw [if_neg hm]
        exact ⟨he, h1.1, by omega, (h2 h0).2, rfl⟩
    · rw [if_neg h0] at h; exact absurd h h0
  · have hr : rU s a e = (0, a, e) := by unfold rU; rw [if_neg he]
    rw [hr, if_neg he] at h
    exact absurd h he
set_option maxHeartbeats 2000000 in
theorem text_rd (s : ByteArray) (a : Nat) (e most : Int) (g : Nat) (w : World) (hs : s.size ≤ 140737488355232) (ha : a ≤ 140737488355232) (hm : 0 ≤ most ∧ most ≤ 1000) (h : holdsC w g 101 (rdC s a e)) :
    Calls Try.prog 61 #[.pointer (some ⟨g, 0, none⟩), .int .i64 most] w fun en w' => en = .returned (.string (rT s a e most).1) ∧ holdsC w' g 101 (rdC s (rT s a e most).2.1 (rT s a e most).2.2) ∧ But g w w' := by
  have HU := Lib.hid (count_rd s a e most g w hs ha hm h)
  have hrg := rC_range s a e most
  have HZ : Hid (rT s a e most = if (rC s a e most).2.2 = 0 then (if (s.size : Int) - ((rC s a e most).2.1 : Int) < (rC s a e most).1 then (⟨#[]⟩, (rC s a e most).2.1, 5) else (s.extract (rC s a e most).2.1 ((rC s a e most).2.1 + (rC s a e most).1.toNat), (rC s a e most).2.1 + (rC s a e most).1.toNat, 0)) else (⟨#[]⟩, (rC s a e most).2.1, (rC s a e most).2.2)) := rfl
  generalize rC s a e most = R at *
  obtain ⟨n, b, d⟩ := R
  simp only at hrg HZ HU
  go_enter Try.func61, Try.ntmps61
  go_wp2_with fail
  refine HU.out.mono ?_; rintro en w1 ⟨rfl, h', hB⟩
  go_wp2_with fail
  refine (right_any s b d g w1 h').mono ?_; rintro en w' ⟨rfl, rfl⟩
  by_cases hd : d = 0
  · obtain ⟨_, n0, n1, hb, _⟩ := hrg hd
    clear hrg
    have hd' : (d == 0) = true := by simpa using hd
    have c0 := h'.cell 0 (.string s) rfl
    have c1 := h'.cell 1 (.int .i64 (b : Int)) rfl
    by_cases hu : (s.size : Int) - (b : Int) < n
    · have hu' : decide ((s.size : Int) - (b : Int) < n) = true := decide_eq_true hu
      have HR : Hid (rT s a e most = (⟨#[]⟩, b, 5)) := by show _ = _; rw [HZ.out, if_pos hd, if_pos hu]
      clear HZ
      go_wp2
      go_quiet (fail)
      have h2 : holdsC (w'.drewN nq) g 101 (rdC s b d) := h'
      have c2 := h2.cell 2 (.int .i64 d) rfl
      have f2 := holdsC_free h2 2
      go_wp2
      go_ret
      exact ⟨by rw [HR.out]; rfl, by rw [HR.out]; exact holdsC_set h2 2 _, (hB.drewN _).cell 2 _⟩
    · have hu' : decide ((s.size : Int) - (b : Int) < n) = false := decide_eq_false hu
      obtain ⟨k, rfl⟩ : ∃ k : Nat, n = k := ⟨n.toNat, by omega⟩
      have HR : Hid (rT s a e most = (s.extract b (b + k), b + k, 0)) := by show _ = _; rw [HZ.out, if_pos hd, if_neg hu]; rfl
      clear HZ
      go_wp2
      go_quiet (fail)
      have h2 : holdsC (w'.drewN nq) g 101 (rdC s b d) := h'
      have hB2 := hB.drewN nq
      have c12 := h2.cell 1 (.int .i64 (b : Int)) rfl
      have f12 := holdsC_free h2 1
      go_wp2
      have h3 : holdsC ((w'.drewN nq).setCell ⟨g, 1, none⟩ (.int .i64 ((b : Int) + (k : Int)))) g 101 (rdC s (b + k) 0) := by
        have := holdsC_set h2 1 (.int .i64 ((b : Int) + (k : Int)))
        rw [hd] at this
        exact this
      have hB3 := hB2.cell 1 (.int .i64 ((b : Int) + (k : Int)))
      have c13 := h3.cell 1 (.int .i64 (((b + k : Nat) : Int))) rfl
      have c03 := h3.cell 0 (.string s) rfl
      generalize ((w'.drewN nq).setCell ⟨g, 1, none⟩ (.int .i64 ((b : Int) + (k : Int)))) = w5 at *
      have e0 : IntKind.i64.wrap (b : Int) = (b : Int) := by rw [i64_w]; exact w64' (by omega) (by omega)
      have e2 : ((b : Int) ≤ (b : Int) + (k : Int)) = True := eq_true (by omega)
      have e3 : ((b : Int) + (k : Int) ≤ (s.size : Int)) = True := eq_true (by omega)
      have e4 : (0 ≤ (b : Int)) = True := eq_true (by omega)
      have e5 : ((b : Int) + (k : Int)).toNat = b + k := by omega
      go_quiet (fail)
      go_wp2
      go_ret
      exact ⟨by rw [HR.out]; rfl, by rw [HR.out]; exact h3, hB3.drewN _⟩
  · have hd' : (d == 0) = false := by simpa using hd
    have HR : Hid (rT s a e most = (⟨#[]⟩, b, d)) := by show _ = _; rw [HZ.out, if_neg hd]
    go_wp2
    go_ret
    exact ⟨by rw [HR.out]; rfl, by rw [HR.out]; exact h', hB⟩
end Go.Proofs.Ytlpfepcmpccbeaa.Pt
/-
  profile.Parse.
-/
namespace Go.Proofs.Ytlpfepcmpccbeaa.Pt
open Go.RowKit Go.Proofs.Ytlpfepcmpccbeaa.NM Go.Proofs.Ytlpfepcmpccbeaa.Cv Go.Proofs.Ytlpfepcmpccbeaa.Wi Go.Proofs.Ytlpfepcmpccbeaa.Nm9 Go.Proofs.Ytlpfepcmpccbeaa.Mx Go.Proofs.Ytlpfepcmpccbeaa.Pf Go.Proofs.Ytlpfepcmpccbeaa.PNum Go.Proofs.YtlpfepcmpccbeaaW.PrintWords Go.Proofs.YtlpfepcmpccbeaaW.PrintMore Go.Proofs.YtlpfepcmpccbeaaW.PrintLast
set_option linter.unusedVariables false

/-- the reader's place and error behind k numbers -/
def stR (s : ByteArray) (a : Nat) (e : Int) : Nat → Nat × Int
  | 0 => (a, e)
  | k + 1 => (rU s (stR s a e k).1 (stR s a e k).2).2
/-- number k -/
def vlR (s : ByteArray) (a : Nat) (e : Int) (k : Nat) : Int := unz (rU s (stR s a e k).1 (stR s a e k).2).1
theorem rU_at {s : ByteArray} {a : Nat} (e : Int) (h : a ≤ s.size) : (rU s a e).2.1 ≤ s.size := by
  unfold rU
  split
  · obtain ⟨_, h2, h3, _⟩ := numS_range s a
    by_cases h0 : (numS s a).2.2 = 0
    · exact (h2 h0).2
    · rw [(h3 h0).2]; exact h
  · exact h
theorem rC_at {s : ByteArray} {a : Nat} (e most : Int) (h : a ≤ s.size) : (rC s a e most).2.1 ≤ s.size := by
  have := rU_at e h
  unfold rC
  split
  · split
    · exact this
    · exact this
  · exact this
theorem rT_at {s : ByteArray} {a : Nat} (e most : Int) (h : a ≤ s.size) : (rT s a e most).2.1 ≤ s.size := by
  have h1 := rC_at e most h
  unfold rT
  split
  · rename_i h0
    have h2 := rC_range s a e most h0
    split
    · exact h1
    · show (rC s a e most).2.1 + (rC s a e most).1.toNat ≤ _
      omega
  · exact h1
theorem stR_at {s : ByteArray} {a : Nat} (e : Int) (h : a ≤ s.size) : ∀ k, (stR s a e k).1 ≤ s.size
  | 0 => h
  | k + 1 => rU_at _ (stR_at e h k)
/-- what is parsed -/
def psN (s : ByteArray) : ByteArray × Nat × Int := rT s 0 0 32
def psC (s : ByteArray) : Int × Nat × Int := rC s (psN s).2.1 (psN s).2.2 16
def psK (s : ByteArray) : Nat := (psC s).1.toNat
def psL (s : ByteArray) : List Kn := (List.range (psK s)).map fun i => ⟨vlR s (psC s).2.1 (psC s).2.2 (2 * i), vlR s (psC s).2.1 (psC s).2.2 (2 * i + 1)⟩
def psMn (s : ByteArray) (n : Nat) : Nat → Int := fun k => if k < n then vlR s (psC s).2.1 (psC s).2.2 (2 * psK s + k) else 0
def psE (s : ByteArray) : Int := if (stR s (psC s).2.1 (psC s).2.2 (2 * psK s + 9)).2 = 0 then (if (stR s (psC s).2.1 (psC s).2.2 (2 * psK s + 9)).1 < s.size then 6 else 0) else (stR s (psC s).2.1 (psC s).2.2 (2 * psK s + 9)).2
def parseC (s : ByteArray) : Int := if psE s = 0 then profCheck (psN s).1 (psL s) (psMn s 9) else psE s
def parseN (s : ByteArray) : ByteArray := if parseC s = 0 then (psN s).1 else ⟨#[]⟩
def parseL (s : ByteArray) : List Kn := if parseC s = 0 then psL s else []
def parseM (s : ByteArray) : Nat → Int := if parseC s = 0 then psMn s 9 else fun _ => 0
theorem psN_size (s : ByteArray) : (psN s).1.size ≤ s.size := by
  unfold psN rT
  split
  · split
    · show 0 ≤ _; omega
    · show (s.extract _ _).size ≤ _
      rw [ByteArray.size_extract]; omega
  · show 0 ≤ _; omega
theorem But.R {e : Nat} {w w' : World} {base g : Nat} {ok : Nat → Prop} {v : Value} {xs : List Kn} (h : But g w w') (hR : Kd.R k72 e w base ok v xs) (hg : g < base) : Kd.R k72 e w' base ok v xs :=
  Kd.R_mono (Kd.R_move (Kd.R_bound hR) (fun k hk => h.2.2 k hk.2.2.1 (by have := hk.2.1; omega))) (fun _ hk => hk.1)
theorem int_st (s : ByteArray) (a : Nat) (e : Int) (k : Nat) (g : Nat) (w : World) (hs : s.size ≤ 140737488355232) (ha : a ≤ s.size) (h : holdsC w g 101 (rdC s (stR s a e k).1 (stR s a e k).2)) :
    Calls Try.prog 63 #[.pointer (some ⟨g, 0, none⟩)] w fun en w' => en = .returned (.int .i64 (vlR s a e k)) ∧ holdsC w' g 101 (rdC s (stR s a e (k + 1)).1 (stR s a e (k + 1)).2) ∧ But g w w' :=
  int_rd s _ _ g w hs (by have := stR_at e ha k; omega) h
def knR (s : ByteArray) (a : Nat) (e : Int) (n : Nat) : List Kn := (List.range n).map fun i => ⟨vlR s a e (2 * i), vlR s a e (2 * i + 1)⟩
theorem knR_succ (s : ByteArray) (a : Nat) (e : Int) (n : Nat) : knR s a e n ++ [⟨vlR s a e (2 * n), vlR s a e (2 * n + 1)⟩] = knR s a e (n + 1) := by
  unfold knR
  rw [List.range_succ, List.map_append]
  rfl
theorem knR_len (s : ByteArray) (a : Nat) (e : Int) (n : Nat) : (knR s a e n).length = n := by unfold knR; simp
theorem profC_set1 (nm : ByteArray) (s v : Value) (m : Nat → Int) : (profC nm s m).setIfInBounds 1 v = profC nm v m := rfl
theorem profC_setM (nm : ByteArray) (s : Value) (m : Nat → Int) (i : Nat) (v : Int) : (profC nm s m).setIfInBounds (2 + i) (.int .i64 v) = profC nm s (upd m i v) := by
  unfold profC
  rw [Array.setIfInBounds_append, if_neg (by simp), show 2 + i - (#[Value.string nm, s] : Array Value).size = i by simp, arrN_set]
theorem psM_step (s : ByteArray) (i : Nat) : upd (psMn s i) i (vlR s (psC s).2.1 (psC s).2.2 (2 * psK s + i)) = psMn s (i + 1) := by
  funext k
  unfold upd psMn
  by_cases h : k = i
  · subst h; simp
  · rw [if_neg h]
    by_cases h2 : k < i
    · rw [if_pos h2, if_pos (by omega)]
    · rw [if_neg h2, if_neg (by omega)]
theorem psK_le (s : ByteArray) : psK s ≤ 16 := by
  unfold psK psC
  by_cases h : (rC s (psN s).2.1 (psN s).2.2 16).2.2 = 0
  · have := rC_range s (psN s).2.1 (psN s).2.2 16 h
    omega
  · have : (rC s (psN s).2.1 (psN s).2.2 16).1 = 0 := by
      unfold rC at h ⊢
      split
      · rename_i h0
        rw [if_pos h0] at h
        split
        · rfl
        · rename_i h1
          rw [if_neg h1] at h
          exact absurd h0 h
      · rfl
    omega
theorem psC_eq (s : ByteArray) : (psC s).1 = (psK s : Int) := by
  unfold psK
  by_cases h : (psC s).2.2 = 0
  · have := rC_range s (psN s).2.1 (psN s).2.2 16 h
    unfold psC
    omega
  · have : (psC s).1 = 0 := by
      unfold psC rC at h ⊢
      split
      · rename_i h0
        rw [if_pos h0] at h
        split
        · rfl
        · rename_i h1
          rw [if_neg h1] at h
          exact absurd h0 h
      · rfl
    omega
set_option maxRecDepth 20000 in
set_option maxHeartbeats 2000000 in
theorem pParse_any (s : ByteArray) (w : World) (hs : s.size ≤ 140737488355232) :
    Calls Try.prog 29 #[.string s] w fun e w' => ∃ A2 c2, e = .returned (.tuple #[.agg (profC (parseN s) (.slice A2 (parseL s).length c2) (parseM s)), .int .i64 (parseC s)]) ∧ Kd.C k72 w' A2 (parseL s).length (parseL s) ∧ (parseL s).length ≤ c2 ∧ Below w.heap.size w w' := by
  have HS : Hid (s.size ≤ 140737488355232) := hs
  have h1at : (psN s).2.1 ≤ s.size := rT_at 0 32 (by omega)
  have h2at : (psC s).2.1 ≤ s.size := rC_at _ 16 h1at
  have hkle := psK_le s
  have hceq := psC_eq s
  go_enter Try.func29, Try.ntmps29
  go_upto_region 1 with fail
  have h0 : holdsC (w.alloc (.cells #[.string ⟨#[]⟩, .slice none 0 0, .int .i64 0, .int .i64 0, .int .i64 0, .int .i64 0, .int .i64 0, .int .i64 0, .int .i64 0, .int .i64 0, .int .i64 0] 25)) w.heap.size 25 #[.string ⟨#[]⟩, .slice none 0 0, .int .i64 0, .int .i64 0, .int .i64 0, .int .i64 0, .int .i64 0, .int .i64 0, .int .i64 0, .int .i64 0, .int .i64 0] := by
    have h : holdsC (w.alloc (.cells #[.string ⟨#[]⟩, .slice none 0 0, .int .i64 0, .int .i64 0, .int .i64 0, .int .i64 0, .int .i64 0, .int .i64 0, .int .i64 0, .int .i64 0, .int .i64 0] 25)) w.heap.size 25 #[.string ⟨#[]⟩, .slice none 0 0, .int .i64 0, .int .i64 0, .int .i64 0, .int .i64 0, .int .i64 0, .int .i64 0, .int .i64 0, .int .i64 0, .int .i64 0] := heap_alloc_new _ _
    have h := h
    exact h
  have hb : Below w.heap.size w (w.alloc (.cells #[.string ⟨#[]⟩, .slice none 0 0, .int .i64 0, .int .i64 0, .int .i64 0, .int .i64 0, .int .i64 0, .int .i64 0, .int .i64 0, .int .i64 0, .int .i64 0] 25)) := ((Below.refl _ _).alloc (Nat.le_refl _) _)
  generalize (w.alloc (.cells #[.string ⟨#[]⟩, .slice none 0 0, .int .i64 0, .int .i64 0, .int .i64 0, .int .i64 0, .int .i64 0, .int .i64 0, .int .i64 0, .int .i64 0, .int .i64 0] 25)) = wc at *
  generalize hB : w.heap.size = B at *
  have HB := Lib.hid hB
  clear hB
  go_wp2_with fail
  refine (wire_New.calls s _ _ _ _ wc wc (Below.refl _ _) rfl).mono ?_; rintro e w1 ⟨g, rfl, ⟨hg, hgB⟩, b1, _⟩
  have hg : holdsC w1 g 101 (rdC s 0 0) := hg
  have g0 := h0.kept b1 h0.lt
  have gb := hb.trans (b1.mono (Nat.le_trans (Nat.le_of_eq HB.out.symm) hb.size))
  have hBg : B < g := Nat.lt_of_lt_of_le h0.lt hgB
  clear h0 hb b1 hgB
  go_wp2_with fail
  refine (text_rd s 0 0 32 g w1 hs (by omega) (by omega) hg).mono ?_; rintro e w2 ⟨rfl, hg2, hB2⟩
  have k0 := hB2.kept g0 (by omega)
  have kb := hB2.below gb (by omega) (by rw [← HB.out]; exact gb.size)
  clear hg g0 gb hB2
  have hq : g < w2.heap.size := hg2.lt
  have hg3 := hg2
  replace hg3 : holdsC w2 g 101 (rdC s (psN s).2.1 (psN s).2.2) := hg2
  clear hg2
  have H3 : holdsC (w2.alloc (.cells #[.string ⟨#[]⟩, .slice none 0 0, .int .i64 0, .int .i64 0, .int .i64 0, .int .i64 0, .int .i64 0, .int .i64 0, .int .i64 0, .int .i64 0, .int .i64 0] 25)) w2.heap.size 25 #[.string ⟨#[]⟩, .slice none 0 0, .int .i64 0, .int .i64 0, .int .i64 0, .int .i64 0, .int .i64 0, .int .i64 0, .int .i64 0, .int .i64 0, .int .i64 0] := heap_alloc_new _ _
  have a0 := (k0.alloc (.cells #[.string ⟨#[]⟩, .slice none 0 0, .int .i64 0, .int .i64 0, .int .i64 0, .int .i64 0, .int .i64 0, .int .i64 0, .int .i64 0, .int .i64 0, .int .i64 0] 25)).setRowOther (g' := w2.heap.size) (by omega) (profC (psN s).1 (.slice none 0 0) (psMn s 0))
  have ag := (hg3.alloc (.cells #[.string ⟨#[]⟩, .slice none 0 0, .int .i64 0, .int .i64 0, .int .i64 0, .int .i64 0, .int .i64 0, .int .i64 0, .int .i64 0, .int .i64 0, .int .i64 0] 25)).setRowOther (g' := w2.heap.size) (by omega) (profC (psN s).1 (.slice none 0 0) (psMn s 0))
  have ap := holdsC_row H3 (profC (psN s).1 (.slice none 0 0) (psMn s 0))
  have ab := below_setRow (kb.alloc (by rw [← HB.out]; exact kb.size) (.cells #[.string ⟨#[]⟩, .slice none 0 0, .int .i64 0, .int .i64 0, .int .i64 0, .int .i64 0, .int .i64 0, .int .i64 0, .int .i64 0, .int .i64 0, .int .i64 0] 25)) (by rw [← HB.out]; exact kb.size) (profC (psN s).1 (.slice none 0 0) (psMn s 0))
  go_upto_region 3 with (first | (refine wpList_build_as rfl 25 _ rfl (profC (psN s).1 (.slice none 0 0) (psMn s 0)) (by kernel_rfl) ?_) | (refine wpList_store_row rfl 25 (.tmp 5) (.tmp 15) rfl _ (profC (psN s).1 (.slice none 0 0) (psMn s 0)) rfl rfl 25 _ H3 (profC_info _ _ _) (by rw [profC_size]; rfl) (profC_one _ _ _ rfl) ?_))
  have hsz : ((w2.alloc (.cells #[.string ⟨#[]⟩, .slice none 0 0, .int .i64 0, .int .i64 0, .int .i64 0, .int .i64 0, .int .i64 0, .int .i64 0, .int .i64 0, .int .i64 0, .int .i64 0] 25)).setRow w2.heap.size (profC (psN s).1 (.slice none 0 0) (psMn s 0))).heap.size = w2.heap.size + 1 := by simp [World.setRow]
  clear H3 k0 hg3 kb
  generalize (w2.alloc (.cells #[.string ⟨#[]⟩, .slice none 0 0, .int .i64 0, .int .i64 0, .int .i64 0, .int .i64 0, .int .i64 0, .int .i64 0, .int .i64 0, .int .i64 0, .int .i64 0] 25)).setRow w2.heap.size (profC (psN s).1 (.slice none 0 0) (psMn s 0)) = w3 at *
  generalize w2.heap.size = p at *
  go_wp2_with fail
  have hceq' : (rC s (psN s).2.1 (psN s).2.2 16).1 = (psK s : Int) := hceq
  have HCT := count_rd s (psN s).2.1 (psN s).2.2 16 g w3 hs (by omega) (by omega) ag
  rw [hceq'] at HCT
  clear hceq hceq'
  refine HCT.mono ?_; rintro e w4 ⟨rfl, hg4, hB4⟩
  have m0 := hB4.kept a0 (by omega)
  have mp := hB4.kept ap (by omega)
  have mb := hB4.below ab (by omega) (by rw [← HB.out]; exact ab.size)
  replace hg4 : holdsC w4 g 101 (rdC s (stR s (psC s).2.1 (psC s).2.2 (2 * 0)).1 (stR s (psC s).2.1 (psC s).2.2 (2 * 0)).2) := hg4
  have hpz : p + 1 ≤ w4.heap.size := by have := hB4.2.1; omega
  clear HCT a0 ag ap ab hB4 hsz
  go_wp2_with fail
  go_loopw [6, 7, 18] (fun _ _ v18 wr => ∃ (i : Nat) (v : Value), i ≤ psK s ∧ v18 = .int .i64 i ∧ holdsC wr g 101 (rdC s (stR s (psC s).2.1 (psC s).2.2 (2 * i)).1 (stR s (psC s).2.1 (psC s).2.2 (2 * i)).2) ∧ holdsC wr p 25 (profC (psN s).1 v (psMn s 0)) ∧ holdsC wr B 25 #[.string ⟨#[]⟩, .slice none 0 0, .int .i64 0, .int .i64 0, .int .i64 0, .int .i64 0, .int .i64 0, .int .i64 0, .int .i64 0, .int .i64 0, .int .i64 0] ∧ Hid (Kd.R k72 72 wr (p + 1) (fun _ => True) v (knR s (psC s).2.1 (psC s).2.2 i)) ∧ Below B w wr ∧ p + 1 ≤ wr.heap.size) (fun _ _ v _ => psK s - (intOf v).toNat)
  case atStart => exact ⟨0, _, by omega, rfl, hg4, mp, m0, Kd.R_nil _ _ _ _ _, mb, hpz⟩
  case round =>
    obtain ⟨i, v, hi, rfl, xg, xp, x0, HXR, xb, xz⟩ := hrel
    clear hg4 mp m0 mb hpz
    obtain ⟨w20, hw20⟩ : ∃ w20 : World, w20 = wr := ⟨_, rfl⟩
    subst hw20
    by_cases hil : i < psK s
    · have hd : decide ((i : Int) < (psK s : Int)) = true := decide_eq_true (by omega)
      go_wp2_with fail
      refine (int_st s (psC s).2.1 (psC s).2.2 (2 * i) g w20 hs h2at xg).mono ?_; rintro e w21 ⟨rfl, yg, hBx⟩
      have yp := hBx.kept xp (by omega)
      have y0 := hBx.kept x0 (by omega)
      have yb := hBx.below xb (by omega) (by rw [← HB.out]; exact xb.size)
      have yz : p + 1 ≤ w21.heap.size := by have := hBx.2.1; omega
      have HYR := Lib.hid (hBx.R HXR.out (by omega))
      clear xg xp x0 xb xz HXR hBx
      go_wp2_with fail
      refine (int_st s (psC s).2.1 (psC s).2.2 (2 * i + 1) g w21 hs h2at yg).mono ?_; rintro e w22 ⟨rfl, zg, hBx⟩
      have zp := hBx.kept yp (by omega)
      have z0 := hBx.kept y0 (by omega)
      have zb := hBx.below yb (by omega) (by rw [← HB.out]; exact yb.size)
      have zz : p + 1 ≤ w22.heap.size := by have := hBx.2.1; omega
      have HZR := Lib.hid (hBx.R HYR.out (by omega))
      clear yg yp y0 yb yz HYR hBx
      have hkn := knR_succ s (psC s).2.1 (psC s).2.2 i
      have hlen := knR_len s (psC s).2.1 (psC s).2.2 i
      replace zg : holdsC w22 g 101 (rdC s (stR s (psC s).2.1 (psC s).2.2 (2 * (i + 1))).1 (stR s (psC s).2.1 (psC s).2.2 (2 * (i + 1))).2) := zg
      generalize vlR s (psC s).2.1 (psC s).2.2 (2 * i) = vx at *
      generalize vlR s (psC s).2.1 (psC s).2.2 (2 * i + 1) = vy at *
      have HKN := Lib.hid hkn
      clear hkn
      generalize knR s (psC s).2.1 (psC s).2.2 i = li at *
      have c1 := zp.cell 1 v rfl
      go_wp2_with (first | ((with_reducible refine gate_builtin (b := .append) (xs := #[.tmp 25, .tmp 29]) rfl ?_); at_builtin; refine Kd.R_append k72 (w0 := w22) (p + 1) rfl (.tmp 25) (.tmp 29) 22 72 (.agg #[.int .i64 0, .int .i64 0]) 16 rfl Try.underlying22 info72 rfl (by decide) (by omega) v li ⟨vx, vy⟩ [.int .i64 vx, .int .i64 vy] (fun _ => True) (fun _ => False) rfl rfl ?aP (fun _ hk => hk.elim) ?aF ?aO ?aB ?aS ?aL ?_; (case aP => exact k72_mkM _ _ _ ⟨vx, vy⟩); (case aB => exact Below.refl _ _); (case aF => exact (fun _ _ => trivial)); (case aO => exact HZR.out); (case aS => exact zz); (case aL => omega); intro v1 w23 ho hb4 hgr hat; obtain ⟨A1, c1_, hv1⟩ := Kd.R_slice ho; obtain ⟨n1, hn1⟩ : ∃ n, n = (li ++ [(⟨vx, vy⟩ : Kn)]).length := ⟨_, rfl⟩; rw [← hn1] at hv1; subst hv1; clear hn1; have ug := zg.kept hb4 (by omega); have up := zp.kept hb4 (by omega); have u0 := z0.kept hb4 (by omega); have ub := zb.trans (hb4.mono (by omega)); have uz : p + 1 ≤ w23.heap.size := Nat.le_trans zz hb4.size; have HUR := Lib.hid ho; have cc := up.cell 1 v rfl; have ff := holdsC_free up 1; clear hgr hat ho hb4))
      have vp := holdsC_set up 1 (.slice A1 n1 c1_)
      rw [profC_set1] at vp
      have vg : holdsC (w23.setCell ⟨p, 1, none⟩ (.slice A1 n1 c1_)) g 101 (rdC s (stR s (psC s).2.1 (psC s).2.2 (2 * (i + 1))).1 (stR s (psC s).2.1 (psC s).2.2 (2 * (i + 1))).2) := by
        unfold holdsC at *
        rw [Below.heap_setCell w23 ⟨p, 1, none⟩ (.slice A1 n1 c1_) g (by show g ≠ p; omega)]; exact ug
      have v0 : holdsC (w23.setCell ⟨p, 1, none⟩ (.slice A1 n1 c1_)) B 25 #[.string ⟨#[]⟩, .slice none 0 0, .int .i64 0, .int .i64 0, .int .i64 0, .int .i64 0, .int .i64 0, .int .i64 0, .int .i64 0, .int .i64 0, .int .i64 0] := by
        unfold holdsC at *
        rw [Below.heap_setCell w23 ⟨p, 1, none⟩ (.slice A1 n1 c1_) B (by show B ≠ p; omega)]; exact u0
      have HVR := Lib.hid (Kd.R_set HUR.out (show w23.heap[p]? = _ from up) (by decide) 1 (.slice A1 n1 c1_))
      rw [HKN.out] at HVR
      have vb : Below B w (w23.setCell ⟨p, 1, none⟩ (.slice A1 n1 c1_)) := ub.setCell (by show B ≤ p; omega) (.slice A1 n1 c1_)
      have vz : p + 1 ≤ (w23.setCell ⟨p, 1, none⟩ (.slice A1 n1 c1_)).heap.size := by simpa [World.setCell] using uz
      go_roundw
      case rel => exact ⟨i + 1, (.slice A1 n1 c1_), by omega, by go_num, vg, vp, v0, HVR, vb, vz⟩
      case measure => simp [intOf]; omega
    · have hd : decide ((i : Int) < (psK s : Int)) = false := decide_eq_false (by omega)
      obtain rfl : i = psK s := by omega
      obtain ⟨A1, c1_, hv⟩ := Kd.R_slice HXR.out
      subst hv
      have HXL : Hid (Kd.R k72 72 w20 (p + 1) (fun _ => True) (.slice A1 (psL s).length c1_) (psL s)) := HXR
      clear HXR
      replace xp : holdsC w20 p 25 (profC (psN s).1 (.slice A1 (psL s).length c1_) (psMn s 0)) := xp
      replace xg : holdsC w20 g 101 (rdC s (stR s (psC s).2.1 (psC s).2.2 (2 * psK s + 0)).1 (stR s (psC s).2.1 (psC s).2.2 (2 * psK s + 0)).2) := xg
      go_wp2_with fail
      go_loopw [8, 33] (fun _ v33 wr => ∃ j : Nat, j ≤ 9 ∧ v33 = .int .i64 j ∧ holdsC wr g 101 (rdC s (stR s (psC s).2.1 (psC s).2.2 (2 * psK s + j)).1 (stR s (psC s).2.1 (psC s).2.2 (2 * psK s + j)).2) ∧ holdsC wr p 25 (profC (psN s).1 (.slice A1 (psL s).length c1_) (psMn s j)) ∧ holdsC wr B 25 #[.string ⟨#[]⟩, .slice none 0 0, .int .i64 0, .int .i64 0, .int .i64 0, .int .i64 0, .int .i64 0, .int .i64 0, .int .i64 0, .int .i64 0, .int .i64 0] ∧ Hid (Kd.R k72 72 wr (p + 1) (fun _ => True) (.slice A1 (psL s).length c1_) (psL s)) ∧ Below B w wr ∧ p + 1 ≤ wr.heap.size) (fun _ v _ => 9 - (intOf v).toNat)
      case atStart => exact ⟨0, by omega, rfl, xg, xp, x0, HXL, xb, xz⟩
      case round =>
        obtain ⟨j, hj, rfl, yg, yp, y0, HYR, yb, yz⟩ := hrel
        clear xg xp x0 HXL xb xz hd
        obtain ⟨w30, hw30⟩ : ∃ w30 : World, w30 = wr := ⟨_, rfl⟩
        subst hw30
        by_cases hj9 : j < 9
        · have hd : decide ((j : Int) < 9) = true := decide_eq_true (by omega)
          go_wp2_with fail
          refine (int_st s (psC s).2.1 (psC s).2.2 (2 * psK s + j) g w30 hs h2at yg).mono ?_; rintro e w31 ⟨rfl, zg, hBx⟩
          have zp := hBx.kept yp (by omega)
          have z0 := hBx.kept y0 (by omega)
          have zb := hBx.below yb (by omega) (by rw [← HB.out]; exact yb.size)
          have zz : p + 1 ≤ w31.heap.size := by have := hBx.2.1; omega
          have HZR := Lib.hid (hBx.R HYR.out (by omega))
          clear yg yp y0 yb yz HYR hBx
          have cc := zp.cell (2 + j) _ (profC_m _ _ _ j hj9)
          have ff := holdsC_free zp (2 + j)
          have p1 : (0 ≤ (j : Int)) = True := eq_true (by omega)
          have p2 : ((j : Int) < 9) = True := eq_true (by omega)
          have vp := holdsC_set zp (2 + j) (.int .i64 (vlR s (psC s).2.1 (psC s).2.2 (2 * psK s + j)))
          rw [profC_setM, psM_step] at vp
          generalize vlR s (psC s).2.1 (psC s).2.2 (2 * psK s + j) = vj at *
          have vg : holdsC (w31.setCell ⟨p, 2 + j, none⟩ (.int .i64 vj)) g 101 (rdC s (stR s (psC s).2.1 (psC s).2.2 (2 * psK s + (j + 1))).1 (stR s (psC s).2.1 (psC s).2.2 (2 * psK s + (j + 1))).2) := by
            unfold holdsC at *
            rw [Below.heap_setCell w31 ⟨p, 2 + j, none⟩ _ g (by show g ≠ p; omega)]; exact zg
          have v0 : holdsC (w31.setCell ⟨p, 2 + j, none⟩ (.int .i64 vj)) B 25 #[.string ⟨#[]⟩, .slice none 0 0, .int .i64 0, .int .i64 0, .int .i64 0, .int .i64 0, .int .i64 0, .int .i64 0, .int .i64 0, .int .i64 0, .int .i64 0] := by
            unfold holdsC at *
            rw [Below.heap_setCell w31 ⟨p, 2 + j, none⟩ _ B (by show B ≠ p; omega)]; exact z0
          have HVR := Lib.hid (Kd.R_set HZR.out (show w31.heap[p]? = _ from zp) (by decide) (2 + j) (.int .i64 vj))
          have vb : Below B w (w31.setCell ⟨p, 2 + j, none⟩ (.int .i64 vj)) := zb.setCell (by show B ≤ p; omega) _
          have vz : p + 1 ≤ (w31.setCell ⟨p, 2 + j, none⟩ (.int .i64 vj)).heap.size := by simpa [World.setCell] using zz
          go_wp2_with fail
          go_roundw
          case rel => exact ⟨j + 1, by omega, by go_num, vg, vp, v0, HVR, vb, vz⟩
          case measure => simp [intOf]; omega
        · have hd : decide ((j : Int) < 9) = false := decide_eq_false (by omega)
          obtain rfl : j = 9 := by omega
          clear hd hj9 hj
          go_wp2_with fail
          have HE0 : Hid ((if (stR s (psC s).2.1 (psC s).2.2 (2 * psK s + 9)).2 = 0 then (if (stR s (psC s).2.1 (psC s).2.2 (2 * psK s + 9)).1 < s.size then (6 : Int) else 0) else (stR s (psC s).2.1 (psC s).2.2 (2 * psK s + 9)).2) = psE s) := rfl
          have HEN := end_rd s _ _ g w30 yg
          rw [HE0.out] at HEN
          refine HEN.mono ?_; rintro e w31 ⟨rfl, nd, rfl⟩
          have zp : holdsC (w30.drewN nd) p 25 (profC (psN s).1 (.slice A1 (psL s).length c1_) (psMn s 9)) := yp
          have z0 : holdsC (w30.drewN nd) B 25 #[.string ⟨#[]⟩, .slice none 0 0, .int .i64 0, .int .i64 0, .int .i64 0, .int .i64 0, .int .i64 0, .int .i64 0, .int .i64 0, .int .i64 0, .int .i64 0] := y0
          have HZR := Lib.hid (Kd.R_drewN HYR.out nd)
          have zb := below_drewN yb nd
          have zz : p + 1 ≤ (w30.drewN nd).heap.size := yz
          clear yg yp y0 HYR yb yz HEN HE0
          generalize w30.drewN nd = w32 at *
          have HPC : Hid (parseC s = if psE s = 0 then profCheck (psN s).1 (psL s) (psMn s 9) else psE s) := rfl
          have HZ : Hid (parseC s ≠ 0 → profC (parseN s) (.slice none (parseL s).length 0) (parseM s) = #[.string ⟨#[]⟩, .slice none 0 0, .int .i64 0, .int .i64 0, .int .i64 0, .int .i64 0, .int .i64 0, .int .i64 0, .int .i64 0, .int .i64 0, .int .i64 0] ∧ parseL s = []) := by
            intro hne
            unfold parseN parseL parseM
            rw [if_neg hne, if_neg hne, if_neg hne]
            exact ⟨rfl, rfl⟩
          have HG : Hid (parseC s = 0 → parseN s = (psN s).1 ∧ parseL s = psL s ∧ parseM s = psMn s 9) := by
            intro hne
            unfold parseN parseL parseM
            rw [if_pos hne, if_pos hne, if_pos hne]
            exact ⟨rfl, rfl, rfl⟩
          have HCK := Lib.hid (pcheck_any (psN s).1 A1 c1_ (psL s) (psMn s 9) w32 (by have := psN_size s; omega) (R_C HZR.out).2 (R_C HZR.out).1)
          generalize profCheck (psN s).1 (psL s) (psMn s 9) = pc at *
          generalize hpe : psE s = pe at *
          clear hpe
          by_cases hE : pe = 0
          · have hE' : (pe == 0) = true := by simpa using hE
            have HPC1 : Hid (parseC s = pc) := by show _ = _; rw [HPC.out, if_pos hE]
            clear HPC
            go_wp2_with (refine wpList_load_row rfl 25 (.tmp 5) rfl p rfl 25 (profC (psN s).1 (.slice A1 (psL s).length c1_) (psMn s 9)) (0, 0) _ zp Try.underlying25 rfl (profC_info _ _ _) ?_)
            refine HCK.out.mono ?_; rintro e w33 ⟨rfl, b1⟩
            have up := zp.kept b1 zp.lt
            have u0 := z0.kept b1 z0.lt
            have HUR := Lib.hid (Kd.R_below HZR.out b1)
            have ub := zb.trans (b1.mono (Nat.le_trans (Nat.le_of_eq HB.out.symm) zb.size))
            clear zp z0 zb b1 HZR HCK
            by_cases hC : pc = 0
            · have hC' : (pc == 0) = true := by simpa using hC
              obtain ⟨q1, q2, q3⟩ := HG.out (HPC1.out.trans hC)
              have q4 := HPC1.out.trans hC
              go_wp2_with (first | (refine wpList_load_row rfl 25 (.tmp 5) rfl p rfl 25 (profC (psN s).1 (.slice A1 (psL s).length c1_) (psMn s 9)) (0, 0) _ up Try.underlying25 rfl (profC_info _ _ _) ?_) | (refine wpList_store_row rfl 25 (.tmp 2) (.tmp 54) rfl B (profC (psN s).1 (.slice A1 (psL s).length c1_) (psMn s 9)) rfl rfl 25 _ u0 (profC_info _ _ _) (by rw [profC_size]; rfl) (profC_one _ _ _ rfl) ?_))
              have hR := R_C (R_setRow HUR.out (g := B) (by omega) (profC (psN s).1 (.slice A1 (psL s).length c1_) (psMn s 9)))
              refine bodyPost_ret (v := .tuple #[.agg (profC (psN s).1 (.slice A1 (psL s).length c1_) (psMn s 9)), .int .i64 0]) (results_row_tmp rfl _ _ rfl rfl (holdsC_row u0 _) rfl Try.underlying25 (profC_info _ _ _)) rfl ?_
              exact ⟨A1, c1_, by rw [q4, q1, q2, q3], by rw [q2]; exact hR.2, by rw [q2]; exact hR.1, by rw [HB.out]; exact below_setRow ub (Nat.le_refl _) _⟩
            · have hC' : (pc == 0) = false := by simpa using hC
              have HQ1 := HPC1.out
              have HQ2 := HZ.out (by rw [HQ1]; exact hC)
              go_wp2_with (first | (refine wpList_build_as rfl 25 _ rfl #[.string ⟨#[]⟩, .slice none 0 0, .int .i64 0, .int .i64 0, .int .i64 0, .int .i64 0, .int .i64 0, .int .i64 0, .int .i64 0, .int .i64 0, .int .i64 0] (by kernel_rfl) ?_) | (refine wpList_store_row rfl 25 (.tmp 2) (.tmp 52) rfl B #[.string ⟨#[]⟩, .slice none 0 0, .int .i64 0, .int .i64 0, .int .i64 0, .int .i64 0, .int .i64 0, .int .i64 0, .int .i64 0, .int .i64 0, .int .i64 0] rfl rfl 25 _ u0 (by kernel_rfl) rfl (by kernel_rfl) ?_))
              refine bodyPost_ret (v := .tuple #[.agg #[.string ⟨#[]⟩, .slice none 0 0, .int .i64 0, .int .i64 0, .int .i64 0, .int .i64 0, .int .i64 0, .int .i64 0, .int .i64 0, .int .i64 0, .int .i64 0], .int .i64 pc]) (results_row_tmp rfl _ _ rfl rfl (holdsC_row u0 _) rfl Try.underlying25 (by kernel_rfl)) rfl ?_
              exact ⟨none, 0, by rw [HQ1, HQ2.1], by rw [HQ2.2]; exact Kd.C_nil _ _, by rw [HQ2.2]; exact Nat.le_refl _, by rw [HB.out]; exact below_setRow ub (Nat.le_refl _) _⟩
          · have hE' : (pe == 0) = false := by simpa using hE
            have HQ1 : parseC s = pe := by rw [HPC.out, if_neg hE]
            have HQ2 := HZ.out (by rw [HQ1]; exact hE)
            go_wp2_with (first | (refine wpList_build_as rfl 25 _ rfl #[.string ⟨#[]⟩, .slice none 0 0, .int .i64 0, .int .i64 0, .int .i64 0, .int .i64 0, .int .i64 0, .int .i64 0, .int .i64 0, .int .i64 0, .int .i64 0] (by kernel_rfl) ?_) | (refine wpList_store_row rfl 25 (.tmp 2) (.tmp 46) rfl B #[.string ⟨#[]⟩, .slice none 0 0, .int .i64 0, .int .i64 0, .int .i64 0, .int .i64 0, .int .i64 0, .int .i64 0, .int .i64 0, .int .i64 0, .int .i64 0] rfl rfl 25 _ z0 (by kernel_rfl) rfl (by kernel_rfl) ?_))
            refine bodyPost_ret (v := .tuple #[.agg #[.string ⟨#[]⟩, .slice none 0 0, .int .i64 0, .int .i64 0, .int .i64 0, .int .i64 0, .int .i64 0, .int .i64 0, .int .i64 0, .int .i64 0, .int .i64 0], .int .i64 pe]) (results_row_tmp rfl _ _ rfl rfl (holdsC_row z0 _) rfl Try.underlying25 (by kernel_rfl)) rfl ?_
            exact ⟨none, 0, by rw [HQ1, HQ2.1], by rw [HQ2.2]; exact Kd.C_nil _ _, by rw [HQ2.2]; exact Nat.le_refl _, by rw [HB.out]; exact below_setRow zb (Nat.le_refl _) _⟩
end Go.Proofs.Ytlpfepcmpccbeaa.Pt
/-
  The parsed profile, stage by stage.
-/
namespace Go.Proofs.Ytlpfepcmpccbeaa.Pt
open Go.RowKit Go.Proofs.Ytlpfepcmpccbeaa.NM Go.Proofs.Ytlpfepcmpccbeaa.Cv Go.Proofs.Ytlpfepcmpccbeaa.Wi Go.Proofs.Ytlpfepcmpccbeaa.Nm9 Go.Proofs.Ytlpfepcmpccbeaa.Mx Go.Proofs.Ytlpfepcmpccbeaa.Pf Go.Proofs.Ytlpfepcmpccbeaa.PNum Go.Proofs.YtlpfepcmpccbeaaW.PrintWords Go.Proofs.YtlpfepcmpccbeaaW.PrintMore Go.Proofs.YtlpfepcmpccbeaaW.PrintLast
set_option linter.unusedVariables false

theorem stR_stuck (s : ByteArray) (a : Nat) (e : Int) (h : e ≠ 0) : ∀ k, stR s a e k = (a, e)
  | 0 => rfl
  | k + 1 => by
    show (rU s (stR s a e k).1 (stR s a e k).2).2 = _
    rw [stR_stuck s a e h k]
    unfold rU
    rw [if_neg h]
theorem stR_add (s : ByteArray) (a : Nat) (e : Int) (i : Nat) : ∀ d, stR s a e (i + d) = stR s (stR s a e i).1 (stR s a e i).2 d
  | 0 => rfl
  | d + 1 => by
    show (rU s (stR s a e (i + d)).1 (stR s a e (i + d)).2).2 = (rU s (stR s (stR s a e i).1 (stR s a e i).2 d).1 (stR s (stR s a e i).1 (stR s a e i).2 d).2).2
    rw [stR_add s a e i d]
theorem parse3 (s : ByteArray) (i : Nat) (hi : i ≤ 2 * psK s + 9) (h : (stR s (psC s).2.1 (psC s).2.2 i).2 ≠ 0) : parseC s = (stR s (psC s).2.1 (psC s).2.2 i).2 := by
  have h1 : stR s (psC s).2.1 (psC s).2.2 (2 * psK s + 9) = ((stR s (psC s).2.1 (psC s).2.2 i).1, (stR s (psC s).2.1 (psC s).2.2 i).2) := by
    rw [show 2 * psK s + 9 = i + (2 * psK s + 9 - i) by omega, stR_add, stR_stuck _ _ _ h]
  have h2 : psE s = (stR s (psC s).2.1 (psC s).2.2 i).2 := by
    unfold psE
    rw [h1, if_neg h]
  unfold parseC
  rw [h2, if_neg h]
theorem parse2 (s : ByteArray) (h : (psC s).2.2 ≠ 0) : parseC s = (psC s).2.2 := parse3 s 0 (by omega) h
theorem rC_stuck (s : ByteArray) (a : Nat) (e most : Int) (h : e ≠ 0) : rC s a e most = (0, a, e) := by
  have hr : rU s a e = (0, a, e) := if_neg h
  unfold rC
  rw [hr, if_neg h]
theorem parse1 (s : ByteArray) (h : (psN s).2.2 ≠ 0) : parseC s = (psN s).2.2 := by
  have h1 : psC s = (0, (psN s).2.1, (psN s).2.2) := rC_stuck _ _ _ _ h
  have := parse2 s (by rw [h1]; exact h)
  rw [this, h1]
theorem parse4 (s : ByteArray) (h : (stR s (psC s).2.1 (psC s).2.2 (2 * psK s + 9)).2 = 0) (h2 : (stR s (psC s).2.1 (psC s).2.2 (2 * psK s + 9)).1 < s.size) : parseC s = 6 := by
  have : psE s = 6 := by unfold psE; rw [if_pos h, if_pos h2]
  unfold parseC
  rw [this, if_neg (by omega)]
theorem parse5 (s : ByteArray) (h : (stR s (psC s).2.1 (psC s).2.2 (2 * psK s + 9)).2 = 0) (h2 : ¬ (stR s (psC s).2.1 (psC s).2.2 (2 * psK s + 9)).1 < s.size) : parseC s = profCheck (psN s).1 (psL s) (psMn s 9) := by
  have : psE s = 0 := by unfold psE; rw [if_pos h, if_neg h2]
  unfold parseC
  rw [if_pos this]
theorem rU_0 (s : ByteArray) (a : Nat) : rU s a 0 = numS s a := if_pos rfl
theorem rC_0 (s : ByteArray) (a : Nat) (most : Int) : rC s a 0 most = if (numS s a).2.2 = 0 then (if most < (numS s a).1 then (0, (numS s a).2.1, 3) else numS s a) else (0, (numS s a).2.1, (numS s a).2.2) := by
  unfold rC
  rw [rU_0]
theorem psN_1 (s : ByteArray) {n e : Int} {b : Nat} (h : numS s 0 = (n, b, e)) (he : e ≠ 0) : psN s = (⟨#[]⟩, b, e) := by
  unfold psN rT
  rw [rC_0, h, if_neg he, if_neg he]
theorem psN_2 (s : ByteArray) {n : Int} {b : Nat} (h : numS s 0 = (n, b, 0)) (hn : 32 < n) : psN s = (⟨#[]⟩, b, 3) := by
  unfold psN rT
  rw [rC_0, h, if_pos rfl, if_pos hn, if_neg (by show ¬ (3 : Int) = 0; omega)]
theorem psN_3 (s : ByteArray) {n : Int} {b : Nat} (h : numS s 0 = (n, b, 0)) (hn : ¬ 32 < n) (hz : (s.size : Int) - (b : Int) < n) : psN s = (⟨#[]⟩, b, 5) := by
  unfold psN rT
  rw [rC_0, h, if_pos rfl, if_neg hn, if_pos rfl, if_pos hz]
theorem psN_4 (s : ByteArray) {n : Int} {b : Nat} (h : numS s 0 = (n, b, 0)) (hn : ¬ 32 < n) (hz : ¬ (s.size : Int) - (b : Int) < n) : psN s = (s.extract b (b + n.toNat), b + n.toNat, 0) := by
  unfold psN rT
  rw [rC_0, h, if_pos rfl, if_neg hn, if_pos rfl, if_neg hz]
theorem psC_1 (s : ByteArray) {a : Nat} {nm : ByteArray} (hN : psN s = (nm, a, 0)) {n e : Int} {b : Nat} (h : numS s a = (n, b, e)) (he : e ≠ 0) : psC s = (0, b, e) := by
  unfold psC
  rw [hN, rC_0, h, if_neg he]
theorem psC_2 (s : ByteArray) {a : Nat} {nm : ByteArray} (hN : psN s = (nm, a, 0)) {n : Int} {b : Nat} (h : numS s a = (n, b, 0)) (hn : 16 < n) : psC s = (0, b, 3) := by
  unfold psC
  rw [hN, rC_0, h, if_pos rfl, if_pos hn]
theorem psC_3 (s : ByteArray) {a : Nat} {nm : ByteArray} (hN : psN s = (nm, a, 0)) {n : Int} {b : Nat} (h : numS s a = (n, b, 0)) (hn : ¬ 16 < n) : psC s = (n, b, 0) := by
  unfold psC
  rw [hN, rC_0, h, if_pos rfl, if_neg hn]
theorem signed_eq (u : Int) (h0 : 0 ≤ u) (h1 : u < 18446744073709551616) : imageeditorref09_Signed.f u = some (unz u) := by
  unfold imageeditorref09_Signed.f unz
  have e1 : Int.tmod u 2 = u % 2 := Int.tmod_eq_emod_of_nonneg h0
  have e2 : Int.tdiv u 2 = u / 2 := Int.tdiv_eq_ediv_of_nonneg h0
  rw [e1, e2, wu (x := u / 2) (by omega) (by omega), w64' (x := u / 2) (by omega) (by omega), w64' (x := -(u / 2)) (by omega) (by omega), w64' (x := -(u / 2) - 1) (by omega) (by omega)]
  by_cases h : u % 2 = 0
  · rw [if_pos h, if_neg (by omega)]
  · rw [if_neg h, if_pos (by omega)]
/-- the numbers of the knots and of the matrix -/
def nsR (s : ByteArray) (a : Nat) (e : Int) (n : Nat) : List Int := (List.range n).map (vlR s a e)
theorem nsR_succ (s : ByteArray) (a : Nat) (e : Int) (n : Nat) : nsR s a e n ++ [vlR s a e n] = nsR s a e (n + 1) := by
  unfold nsR
  rw [List.range_succ, List.map_append]
  rfl
theorem nsR_len (s : ByteArray) (a : Nat) (e : Int) (n : Nat) : (nsR s a e n).length = n := by unfold nsR; simp
theorem nsR_get (s : ByteArray) (a : Nat) (e : Int) (n k : Nat) (h : k < n) : (nsR s a e n).getD k 0 = vlR s a e k := by
  unfold nsR
  simp [List.getD_eq_getElem?_getD, h]
theorem pairs_take (s : ByteArray) : pairsK ((nsR s (psC s).2.1 (psC s).2.2 (2 * psK s + 9)).take (2 * psK s)) = psL s := by
  have hl : ((nsR s (psC s).2.1 (psC s).2.2 (2 * psK s + 9)).take (2 * psK s)).length = 2 * psK s := by rw [List.length_take, nsR_len]; omega
  unfold pairsK psL
  rw [hl, show 2 * psK s / 2 = psK s by omega]
  refine List.map_congr_left fun j hj => ?_
  have hj' : j < psK s := List.mem_range.1 hj
  have h1 : ∀ k, k < 2 * psK s → ((nsR s (psC s).2.1 (psC s).2.2 (2 * psK s + 9)).take (2 * psK s)).getD k 0 = vlR s (psC s).2.1 (psC s).2.2 k := by
    intro k hk
    rw [List.getD_eq_getElem?_getD, List.getElem?_take, if_pos hk, ← List.getD_eq_getElem?_getD]
    exact nsR_get _ _ _ _ _ (by omega)
  rw [h1 (2 * j) (by omega), h1 (2 * j + 1) (by omega)]
theorem profC_set0 (nm nm' : ByteArray) (s : Value) (m : Nat → Int) : (profC nm s m).setIfInBounds 0 (.string nm') = profC nm' s m := rfl
end Go.Proofs.Ytlpfepcmpccbeaa.Pt
/-
  The reference's Parse.
-/
namespace Go.Proofs.Ytlpfepcmpccbeaa.Pt
open Go.RowKit Go.Proofs.Ytlpfepcmpccbeaa.NM Go.Proofs.Ytlpfepcmpccbeaa.Cv Go.Proofs.Ytlpfepcmpccbeaa.Wi Go.Proofs.Ytlpfepcmpccbeaa.Nm9 Go.Proofs.Ytlpfepcmpccbeaa.Mx Go.Proofs.Ytlpfepcmpccbeaa.Pf Go.Proofs.Ytlpfepcmpccbeaa.PNum Go.Proofs.YtlpfepcmpccbeaaW.PrintWords Go.Proofs.YtlpfepcmpccbeaaW.PrintMore Go.Proofs.YtlpfepcmpccbeaaW.PrintLast
set_option linter.unusedVariables false
theorem infoI_ : (Try.prog.info? 3).map (fun i => (i.zero, i.size, i.bytes)) = some (some (.int .i64 0), 1, 8) := by kernel_rfl
theorem at_int {w : World} {e base n c : Nat} {ok : Nat → Prop} {ad : Addr} {xs : List Int} (h : Kd.R (Kd.int .i64) e w base ok (.slice (some ad) n c) xs) (k : Nat) (hk : k < xs.length) : w.cell? (ad.add k) = some (.int .i64 (xs.getD k 0)) := by
  obtain ⟨A2, c2, he, _, h2⟩ := Kd.R_reads h
  injection he with e1 e2 e3
  subst e1
  have hr := Kd.reads_of_C (d := 0) h2
  obtain ⟨ad2, e4, hc⟩ := hr.2.2 (by omega)
  injection e4 with e4
  subst e4
  exact hc k hk
set_option maxRecDepth 200000 in
set_option maxHeartbeats 4000000 in
theorem rParse_any (s : ByteArray) (w : World) (hs : s.size ≤ 140737488355232) :
    Calls Try.prog 30 #[.string s] w fun e w' => ∃ A2 c2, e = .returned (.tuple #[.agg (profC (parseN s) (.slice A2 (parseL s).length c2) (parseM s)), .int .i64 (parseC s)]) ∧ Kd.C k72 w' A2 (parseL s).length (parseL s) ∧ (parseL s).length ≤ c2 ∧ Below w.heap.size w w' := by
  have HZ : Hid (parseC s ≠ 0 → profC (parseN s) (.slice none (parseL s).length 0) (parseM s) = #[.string ⟨#[]⟩, .slice none 0 0, .int .i64 0, .int .i64 0, .int .i64 0, .int .i64 0, .int .i64 0, .int .i64 0, .int .i64 0, .int .i64 0, .int .i64 0] ∧ parseL s = []) := by
    intro hne
    unfold parseN parseL parseM
    rw [if_neg hne, if_neg hne, if_neg hne]
    exact ⟨rfl, rfl⟩
  have HG : Hid (parseC s = 0 → parseN s = (psN s).1 ∧ parseL s = psL s ∧ parseM s = psMn s 9) := by
    intro hne
    unfold parseN parseL parseM
    rw [if_pos hne, if_pos hne, if_pos hne]
    exact ⟨rfl, rfl, rfl⟩
  go_enter Try.func30, Try.ntmps30
  go_upto_region 2 with fail
  have h0 : holdsC ((w.alloc (.cells #[.string ⟨#[]⟩, .slice none 0 0, .int .i64 0, .int .i64 0, .int .i64 0, .int .i64 0, .int .i64 0, .int .i64 0, .int .i64 0, .int .i64 0, .int .i64 0] 25)).alloc (.cells #[.string ⟨#[]⟩, .slice none 0 0, .int .i64 0, .int .i64 0, .int .i64 0, .int .i64 0, .int .i64 0, .int .i64 0, .int .i64 0, .int .i64 0, .int .i64 0] 25)) w.heap.size 25 #[.string ⟨#[]⟩, .slice none 0 0, .int .i64 0, .int .i64 0, .int .i64 0, .int .i64 0, .int .i64 0, .int .i64 0, .int .i64 0, .int .i64 0, .int .i64 0] := by
    have h : holdsC (w.alloc (.cells #[.string ⟨#[]⟩, .slice none 0 0, .int .i64 0, .int .i64 0, .int .i64 0, .int .i64 0, .int .i64 0, .int .i64 0, .int .i64 0, .int .i64 0, .int .i64 0] 25)) w.heap.size 25 #[.string ⟨#[]⟩, .slice none 0 0, .int .i64 0, .int .i64 0, .int .i64 0, .int .i64 0, .int .i64 0, .int .i64 0, .int .i64 0, .int .i64 0, .int .i64 0] := heap_alloc_new _ _
    have h := (h.alloc (.cells #[.string ⟨#[]⟩, .slice none 0 0, .int .i64 0, .int .i64 0, .int .i64 0, .int .i64 0, .int .i64 0, .int .i64 0, .int .i64 0, .int .i64 0, .int .i64 0] 25))
    exact h
  have h1 : holdsC ((w.alloc (.cells #[.string ⟨#[]⟩, .slice none 0 0, .int .i64 0, .int .i64 0, .int .i64 0, .int .i64 0, .int .i64 0, .int .i64 0, .int .i64 0, .int .i64 0, .int .i64 0] 25)).alloc (.cells #[.string ⟨#[]⟩, .slice none 0 0, .int .i64 0, .int .i64 0, .int .i64 0, .int .i64 0, .int .i64 0, .int .i64 0, .int .i64 0, .int .i64 0, .int .i64 0] 25)) (w.heap.size + 1) 25 #[.string ⟨#[]⟩, .slice none 0 0, .int .i64 0, .int .i64 0, .int .i64 0, .int .i64 0, .int .i64 0, .int .i64 0, .int .i64 0, .int .i64 0, .int .i64 0] := by
    have h : holdsC ((w.alloc (.cells #[.string ⟨#[]⟩, .slice none 0 0, .int .i64 0, .int .i64 0, .int .i64 0, .int .i64 0, .int .i64 0, .int .i64 0, .int .i64 0, .int .i64 0, .int .i64 0] 25)).alloc (.cells #[.string ⟨#[]⟩, .slice none 0 0, .int .i64 0, .int .i64 0, .int .i64 0, .int .i64 0, .int .i64 0, .int .i64 0, .int .i64 0, .int .i64 0, .int .i64 0] 25)) (w.alloc (.cells #[.string ⟨#[]⟩, .slice none 0 0, .int .i64 0, .int .i64 0, .int .i64 0, .int .i64 0, .int .i64 0, .int .i64 0, .int .i64 0, .int .i64 0, .int .i64 0] 25)).heap.size 25 #[.string ⟨#[]⟩, .slice none 0 0, .int .i64 0, .int .i64 0, .int .i64 0, .int .i64 0, .int .i64 0, .int .i64 0, .int .i64 0, .int .i64 0, .int .i64 0] := heap_alloc_new _ _
    have h := h
    simpa using h
  have hb : Below w.heap.size w ((w.alloc (.cells #[.string ⟨#[]⟩, .slice none 0 0, .int .i64 0, .int .i64 0, .int .i64 0, .int .i64 0, .int .i64 0, .int .i64 0, .int .i64 0, .int .i64 0, .int .i64 0] 25)).alloc (.cells #[.string ⟨#[]⟩, .slice none 0 0, .int .i64 0, .int .i64 0, .int .i64 0, .int .i64 0, .int .i64 0, .int .i64 0, .int .i64 0, .int .i64 0, .int .i64 0] 25)) := (((Below.refl _ _).alloc (Nat.le_refl _) _).alloc (by simp) _)
  generalize ((w.alloc (.cells #[.string ⟨#[]⟩, .slice none 0 0, .int .i64 0, .int .i64 0, .int .i64 0, .int .i64 0, .int .i64 0, .int .i64 0, .int .i64 0, .int .i64 0, .int .i64 0] 25)).alloc (.cells #[.string ⟨#[]⟩, .slice none 0 0, .int .i64 0, .int .i64 0, .int .i64 0, .int .i64 0, .int .i64 0, .int .i64 0, .int .i64 0, .int .i64 0, .int .i64 0] 25)) = wc at *
  generalize hB : w.heap.size = B at *
  have HB := Lib.hid hB
  clear hB
  replace h1 : holdsC wc (B + 1) 25 (profC ⟨#[]⟩ (.slice none 0 0) (fun _ => 0)) := h1
  have hrg := numS_range s 0
  have HN1 := number_any s 0 wc hs (by omega)
  obtain ⟨R1, hR1⟩ : ∃ R, numS s 0 = R := ⟨_, rfl⟩
  rw [hR1] at HN1 hrg
  obtain ⟨n1, a1, e1⟩ := R1
  simp only at HN1 hrg
  obtain ⟨⟨n0, -⟩, hnx, -, -⟩ := hrg
  have HR1 := Lib.hid hR1
  clear hR1
  go_wp2_with fail
  refine HN1.mono ?_; rintro e w1 ⟨rfl, nd, rfl⟩
  have g0 : holdsC (wc.drewN nd) B 25 #[.string ⟨#[]⟩, .slice none 0 0, .int .i64 0, .int .i64 0, .int .i64 0, .int .i64 0, .int .i64 0, .int .i64 0, .int .i64 0, .int .i64 0, .int .i64 0] := h0
  have g1 : holdsC (wc.drewN nd) (B + 1) 25 (profC ⟨#[]⟩ (.slice none 0 0) (fun _ => 0)) := h1
  have gb := below_drewN hb nd
  clear h0 h1 hb HN1
  generalize wc.drewN nd = w1 at *
  by_cases he1 : e1 = 0
  · have he1' : (e1 == 0) = true := by simpa using he1
    obtain ⟨-, ha1⟩ := hnx he1
    clear hnx
    subst he1
    by_cases h32 : 32 < n1
    · have h32' : decide (32 < n1) = true := decide_eq_true h32
      have hpn := psN_2 s HR1.out h32
      have HQ1 : parseC s = 3 := by have := parse1 s (by rw [hpn]; show (3 : Int) ≠ 0; omega); rw [this, hpn]
      have HQ2 := HZ.out (by rw [HQ1]; first | assumption | (intro hh; simp at hh))
      go_wp2_with (first | (refine wpList_build_as rfl 25 _ rfl #[.string ⟨#[]⟩, .slice none 0 0, .int .i64 0, .int .i64 0, .int .i64 0, .int .i64 0, .int .i64 0, .int .i64 0, .int .i64 0, .int .i64 0, .int .i64 0] (by kernel_rfl) ?_) | (refine wpList_store_row rfl 25 (.tmp 2) (.tmp 27) rfl B #[.string ⟨#[]⟩, .slice none 0 0, .int .i64 0, .int .i64 0, .int .i64 0, .int .i64 0, .int .i64 0, .int .i64 0, .int .i64 0, .int .i64 0, .int .i64 0] rfl rfl 25 _ g0 (by kernel_rfl) rfl (by kernel_rfl) ?_))
      refine bodyPost_ret (v := .tuple #[.agg #[.string ⟨#[]⟩, .slice none 0 0, .int .i64 0, .int .i64 0, .int .i64 0, .int .i64 0, .int .i64 0, .int .i64 0, .int .i64 0, .int .i64 0, .int .i64 0], .int .i64 3]) (results_row_tmp rfl _ _ rfl rfl (holdsC_row g0 _) rfl Try.underlying25 (by kernel_rfl)) rfl ?_
      exact ⟨none, 0, by rw [HQ1, HQ2.1], by rw [HQ2.2]; exact Kd.C_nil _ _, by rw [HQ2.2]; exact Nat.le_refl _, by rw [HB.out]; exact below_setRow gb (Nat.le_refl _) _⟩
    · have h32' : decide (32 < n1) = false := decide_eq_false h32
      obtain ⟨k1, rfl⟩ : ∃ k : Nat, n1 = k := ⟨n1.toNat, by omega⟩
      by_cases hz : (s.size : Int) - (a1 : Int) < (k1 : Int)
      · have hz' : decide ((s.size : Int) - (a1 : Int) < (k1 : Int)) = true := decide_eq_true hz
        have hpn := psN_3 s HR1.out h32 hz
        have HPN := Lib.hid hpn
        clear hpn
        have HQ1 : parseC s = 5 := by have := parse1 s (by rw [HPN.out]; show (5 : Int) ≠ 0; omega); rw [this, HPN.out]
        have HQ2 := HZ.out (by rw [HQ1]; first | assumption | (intro hh; simp at hh))
        go_wp2_with (first | (refine wpList_build_as rfl 25 _ rfl #[.string ⟨#[]⟩, .slice none 0 0, .int .i64 0, .int .i64 0, .int .i64 0, .int .i64 0, .int .i64 0, .int .i64 0, .int .i64 0, .int .i64 0, .int .i64 0] (by kernel_rfl) ?_) | (refine wpList_store_row rfl 25 (.tmp 2) (.tmp 35) rfl B #[.string ⟨#[]⟩, .slice none 0 0, .int .i64 0, .int .i64 0, .int .i64 0, .int .i64 0, .int .i64 0, .int .i64 0, .int .i64 0, .int .i64 0, .int .i64 0] rfl rfl 25 _ g0 (by kernel_rfl) rfl (by kernel_rfl) ?_))
        refine bodyPost_ret (v := .tuple #[.agg #[.string ⟨#[]⟩, .slice none 0 0, .int .i64 0, .int .i64 0, .int .i64 0, .int .i64 0, .int .i64 0, .int .i64 0, .int .i64 0, .int .i64 0, .int .i64 0], .int .i64 5]) (results_row_tmp rfl _ _ rfl rfl (holdsC_row g0 _) rfl Try.underlying25 (by kernel_rfl)) rfl ?_
        exact ⟨none, 0, by rw [HQ1, HQ2.1], by rw [HQ2.2]; exact Kd.C_nil _ _, by rw [HQ2.2]; exact Nat.le_refl _, by rw [HB.out]; exact below_setRow gb (Nat.le_refl _) _⟩
      · have hz' : decide ((s.size : Int) - (a1 : Int) < (k1 : Int)) = false := decide_eq_false hz
        have HPN : Hid (psN s = (s.extract a1 (a1 + k1), a1 + k1, 0)) := psN_4 s HR1.out h32 hz
        clear HR1
        have hak : a1 + k1 ≤ s.size := by omega
        have e2 : ((a1 : Int) ≤ (a1 : Int) + (k1 : Int)) = True := eq_true (by omega)
        have e3 : ((a1 : Int) + (k1 : Int) ≤ (s.size : Int)) = True := eq_true (by omega)
        have e4 : (0 ≤ (a1 : Int)) = True := eq_true (by omega)
        have e5 : ((a1 : Int) + (k1 : Int)).toNat = a1 + k1 := by omega
        have cc := g1.cell 0 (.string ⟨#[]⟩) rfl
        have ff := holdsC_free g1 0
        have v1 := holdsC_set g1 0 (.string (s.extract a1 (a1 + k1)))
        rw [profC_set0] at v1
        have v0 : holdsC (w1.setCell ⟨(B + 1), 0, none⟩ (.string (s.extract a1 (a1 + k1)))) B 25 #[.string ⟨#[]⟩, .slice none 0 0, .int .i64 0, .int .i64 0, .int .i64 0, .int .i64 0, .int .i64 0, .int .i64 0, .int .i64 0, .int .i64 0, .int .i64 0] := by
          unfold holdsC at *
          rw [Below.heap_setCell w1 ⟨(B + 1), 0, none⟩ _ B (by show B ≠ B + 1; omega)]; exact g0
        have vb : Below B w (w1.setCell ⟨(B + 1), 0, none⟩ (.string (s.extract a1 (a1 + k1)))) := gb.setCell (by show B ≤ B + 1; omega) _
        go_wp2_with fail
        have hrg := numS_range s (a1 + k1)
        have HN2 := fun w => number_any s (a1 + k1) w hs (by omega)
        obtain ⟨R2, hR2⟩ : ∃ R, numS s (a1 + k1) = R := ⟨_, rfl⟩
        rw [hR2] at HN2 hrg
        obtain ⟨n2, a2, e1_⟩ := R2
        simp only at HN2 hrg
        obtain ⟨⟨n0_, -⟩, hnx, -, -⟩ := hrg
        have HR2 := Lib.hid hR2
        clear hR2 e2 e3 e4 e5 cc ff g0 g1 gb hz' hz h32' h32
        generalize w1.setCell ⟨(B + 1), 0, none⟩ (.string (s.extract a1 (a1 + k1))) = w2 at *
        have hci : ((a1 + k1 : Nat) : Int) = (a1 : Int) + (k1 : Int) := by omega
        rw [hci] at HN2
        clear hci
        have HNM : Hid (∃ nm, nm = (s.extract a1 (a1 + k1))) := ⟨_, rfl⟩
        obtain ⟨nm, hnm⟩ := HNM.out
        rw [← hnm] at v1 HPN
        clear HNM hnm
        refine (HN2 w2).mono ?_; rintro e w3 ⟨rfl, nd, rfl⟩
        have g0 : holdsC (w2.drewN nd) B 25 #[.string ⟨#[]⟩, .slice none 0 0, .int .i64 0, .int .i64 0, .int .i64 0, .int .i64 0, .int .i64 0, .int .i64 0, .int .i64 0, .int .i64 0, .int .i64 0] := v0
        have g1 : holdsC (w2.drewN nd) (B + 1) 25 (profC nm (.slice none 0 0) (fun _ => 0)) := v1
        have gb := below_drewN vb nd
        clear v0 v1 vb HN2
        generalize w2.drewN nd = w3 at *
        by_cases he2 : e1_ = 0
        · have he2' : (e1_ == 0) = true := by simpa using he2
          obtain ⟨-, ha2⟩ := hnx he2
          clear hnx
          subst he2
          by_cases h16 : 16 < n2
          · have h16' : decide (16 < n2) = true := decide_eq_true h16
            have hpc := psC_2 s HPN.out HR2.out h16
            have HQ1 : parseC s = 3 := by have := parse2 s (by rw [hpc]; show (3 : Int) ≠ 0; omega); rw [this, hpc]
            have HQ2 := HZ.out (by rw [HQ1]; first | assumption | (intro hh; simp at hh))
            go_wp2_with (first | (refine wpList_build_as rfl 25 _ rfl #[.string ⟨#[]⟩, .slice none 0 0, .int .i64 0, .int .i64 0, .int .i64 0, .int .i64 0, .int .i64 0, .int .i64 0, .int .i64 0, .int .i64 0, .int .i64 0] (by kernel_rfl) ?_) | (refine wpList_store_row rfl 25 (.tmp 2) (.tmp 60) rfl B #[.string ⟨#[]⟩, .slice none 0 0, .int .i64 0, .int .i64 0, .int .i64 0, .int .i64 0, .int .i64 0, .int .i64 0, .int .i64 0, .int .i64 0, .int .i64 0] rfl rfl 25 _ g0 (by kernel_rfl) rfl (by kernel_rfl) ?_))
            refine bodyPost_ret (v := .tuple #[.agg #[.string ⟨#[]⟩, .slice none 0 0, .int .i64 0, .int .i64 0, .int .i64 0, .int .i64 0, .int .i64 0, .int .i64 0, .int .i64 0, .int .i64 0, .int .i64 0], .int .i64 3]) (results_row_tmp rfl _ _ rfl rfl (holdsC_row g0 _) rfl Try.underlying25 (by kernel_rfl)) rfl ?_
            exact ⟨none, 0, by rw [HQ1, HQ2.1], by rw [HQ2.2]; exact Kd.C_nil _ _, by rw [HQ2.2]; exact Nat.le_refl _, by rw [HB.out]; exact below_setRow gb (Nat.le_refl _) _⟩
          · have h16' : decide (16 < n2) = false := decide_eq_false h16
            obtain ⟨k2, rfl⟩ : ∃ k : Nat, n2 = k := ⟨n2.toNat, by omega⟩
            have hk2 : k2 ≤ 16 := by omega
            have hpc := psC_3 s HPN.out HR2.out h16
            have hpk : psK s = k2 := by unfold psK; rw [hpc]; rfl
            have HP3 : Hid (∀ i, i ≤ 2 * k2 + 9 → (stR s a2 0 i).2 ≠ 0 → parseC s = (stR s a2 0 i).2) := by have := parse3 s; rw [hpc, hpk] at this; exact this
            have HP4 : Hid ((stR s a2 0 (2 * k2 + 9)).2 = 0 → (stR s a2 0 (2 * k2 + 9)).1 < s.size → parseC s = 6) := by have := parse4 s; rw [hpc, hpk] at this; exact this
            have HP5 : Hid ((stR s a2 0 (2 * k2 + 9)).2 = 0 → ¬ (stR s a2 0 (2 * k2 + 9)).1 < s.size → parseC s = profCheck nm (psL s) (psMn s 9)) := by have := parse5 s; rw [hpc, hpk, HPN.out] at this; exact this
            have HPT : Hid (pairsK ((nsR s a2 0 (2 * k2 + 9)).take (2 * k2)) = psL s) := by have := pairs_take s; rw [hpc, hpk] at this; exact this
            have HPM : Hid (∀ j, psMn s j = fun k => if k < j then vlR s a2 0 (2 * k2 + k) else 0) := by intro j; unfold psMn; rw [hpc, hpk]
            have HPN1 : Hid ((psN s).1 = nm) := by show _ = _; rw [HPN.out]
            have hst : ∀ i, (stR s a2 0 i).1 ≤ s.size := fun i => stR_at 0 ha2 i
            have HST := Lib.hid hst
            clear hst hpc hpk HPN HR2 h16 h16'
            have hz2 : B + 1 + 1 ≤ w3.heap.size := g1.lt
            go_wp2_with fail
            go_loopw [3, 6, 9, 10, 11, 12, 13] (fun _ v6 v9 v10 _ _ _ wr => ∃ i : Nat, i ≤ 2 * k2 + 9 ∧ v10 = .int .i64 i ∧ v6 = .int .i64 ((stR s a2 0 i).1 : Int) ∧ Hid ((stR s a2 0 i).2 = 0) ∧ holdsC wr (B + 1) 25 (profC nm (.slice none 0 0) (fun _ => 0)) ∧ holdsC wr B 25 #[.string ⟨#[]⟩, .slice none 0 0, .int .i64 0, .int .i64 0, .int .i64 0, .int .i64 0, .int .i64 0, .int .i64 0, .int .i64 0, .int .i64 0, .int .i64 0] ∧ Hid (Kd.R (Kd.int .i64) 3 wr (B + 1 + 1) (fun _ => True) v9 (nsR s a2 0 i)) ∧ Below B w wr ∧ B + 1 + 1 ≤ wr.heap.size) (fun _ _ _ v _ _ _ _ => 2 * k2 + 9 - (intOf v).toNat)
            case atStart => exact ⟨0, by omega, rfl, rfl, rfl, g1, g0, Kd.R_nil _ _ _ _ _, gb, hz2⟩
            case round =>
              obtain ⟨i, hi, rfl, rfl, HSI, x1, x0, HXR, xb, xz⟩ := hrel
              clear g1 g0 gb hz2
              obtain ⟨w20, hw20⟩ : ∃ w20 : World, w20 = wr := ⟨_, rfl⟩
              subst hw20
              have hli := nsR_len s a2 0 i
              have hns := nsR_succ s a2 0 i
              have hat := HST.out i
              have HS1 : Hid (stR s a2 0 (i + 1) = (numS s (stR s a2 0 i).1).2) := by show (rU s (stR s a2 0 i).1 (stR s a2 0 i).2).2 = _; rw [HSI.out, rU_0]
              have HV1 : Hid (vlR s a2 0 i = unz (numS s (stR s a2 0 i).1).1) := by show unz (rU s (stR s a2 0 i).1 (stR s a2 0 i).2).1 = _; rw [HSI.out, rU_0]
              by_cases hil : i < 2 * k2 + 9
              · have hd : decide ((i : Int) < 2 * (k2 : Int) + 9) = true := decide_eq_true (by omega)
                generalize stR s a2 0 i = S at *
                obtain ⟨A, E⟩ := S
                simp only at hat HS1 HV1 HSI
                have hrg := numS_range s A
                have HN3 := number_any s A w20 hs (by omega)
                obtain ⟨R3, hR3⟩ : ∃ R, numS s A = R := ⟨_, rfl⟩
                rw [hR3] at HN3 hrg HS1 HV1
                obtain ⟨u, b, e3⟩ := R3
                simp only at HN3 hrg HS1 HV1
                obtain ⟨⟨u0, u1⟩, hnx, -, -⟩ := hrg
                clear hR3
                have HNX := Lib.hid hnx
                clear hnx
                have hat' := HST.out (i + 1)
                rw [HS1.out] at hat'
                simp only at hat'
                go_wp2_with fail
                refine HN3.mono ?_; rintro e w21 ⟨rfl, nd, rfl⟩
                clear HN3
                have y1 : holdsC (w20.drewN nd) (B + 1) 25 (profC nm (.slice none 0 0) (fun _ => 0)) := x1
                have y0 : holdsC (w20.drewN nd) B 25 #[.string ⟨#[]⟩, .slice none 0 0, .int .i64 0, .int .i64 0, .int .i64 0, .int .i64 0, .int .i64 0, .int .i64 0, .int .i64 0, .int .i64 0, .int .i64 0] := x0
                have HYR := Lib.hid (Kd.R_drewN HXR.out nd)
                have yb := below_drewN xb nd
                have yz : B + 1 + 1 ≤ (w20.drewN nd).heap.size := xz
                clear x1 x0 HXR xb xz
                generalize w20.drewN nd = w21 at *
                by_cases he3 : e3 = 0
                · have he3' : (e3 == 0) = true := by simpa using he3
                  subst he3
                  have HSG := Lib.hid (signed_eq u u0 u1)
                  go_wp2_with fail
                  refine (imageeditorref09_Signed.calls u (unz u) w21 HSG.out).mono ?_; rintro e w22 ⟨rfl, nd, rfl⟩
                  have z1 : holdsC (w21.drewN nd) (B + 1) 25 (profC nm (.slice none 0 0) (fun _ => 0)) := y1
                  have z0 : holdsC (w21.drewN nd) B 25 #[.string ⟨#[]⟩, .slice none 0 0, .int .i64 0, .int .i64 0, .int .i64 0, .int .i64 0, .int .i64 0, .int .i64 0, .int .i64 0, .int .i64 0, .int .i64 0] := y0
                  have HZR := Lib.hid (Kd.R_drewN HYR.out nd)
                  have zb := below_drewN yb nd
                  have zz : B + 1 + 1 ≤ (w21.drewN nd).heap.size := yz
                  clear y1 y0 HYR yb yz
                  generalize w21.drewN nd = w22 at *
                  rw [HV1.out] at hns
                  have HNS := Lib.hid hns
                  clear hns
                  generalize nsR s a2 0 i = li at *
                  generalize unz u = vu at *
                  go_wp2_with (first | ((with_reducible refine gate_builtin (b := .append) (xs := #[.tmp 80, .tmp 83]) rfl ?_); at_builtin; refine Kd.R_append (Kd.int .i64) (w0 := w22) (B + 1 + 1) rfl (.tmp 80) (.tmp 83) 67 3 (.int .i64 0) 8 rfl Try.underlying67 infoI_ rfl (by decide) (by omega) u9 li vu [.int .i64 vu] (fun _ => True) (fun _ => False) rfl rfl ?aP (fun _ hk => hk.elim) ?aF ?aO ?aB ?aS ?aL ?_; (case aP => exact rfl); (case aB => exact Below.refl _ _); (case aF => exact (fun _ _ => trivial)); (case aO => exact HZR.out); (case aS => exact zz); (case aL => omega); intro v1 w23 ho hb4 hgr hat2; rw [HNS.out] at ho; have u1_ := z1.kept hb4 (by omega); have u0_ := z0.kept hb4 (by omega); have ub := zb.trans (hb4.mono (by omega)); have uz : B + 1 + 1 ≤ w23.heap.size := Nat.le_trans zz hb4.size; have HUR := Lib.hid ho; clear hgr hat2 ho hb4))
                  go_roundw
                  case rel => exact ⟨i + 1, by omega, by go_num, by rw [HS1.out], by show _ = _; rw [HS1.out], u1_, u0_, HUR, ub, uz⟩
                  case measure => simp [intOf]; omega
                · have he3' : (e3 == 0) = false := by simpa using he3
                  have HQ1 : parseC s = e3 := by have := HP3.out (i + 1) (by omega) (by rw [HS1.out]; exact he3); rw [this, HS1.out]
                  have HQ2 := HZ.out (by rw [HQ1]; first | assumption | (intro hh; simp at hh))
                  go_wp2_with (first | (refine wpList_build_as rfl 25 _ rfl #[.string ⟨#[]⟩, .slice none 0 0, .int .i64 0, .int .i64 0, .int .i64 0, .int .i64 0, .int .i64 0, .int .i64 0, .int .i64 0, .int .i64 0, .int .i64 0] (by kernel_rfl) ?_) | (refine wpList_store_row rfl 25 (.tmp 2) (.tmp 78) rfl B #[.string ⟨#[]⟩, .slice none 0 0, .int .i64 0, .int .i64 0, .int .i64 0, .int .i64 0, .int .i64 0, .int .i64 0, .int .i64 0, .int .i64 0, .int .i64 0] rfl rfl 25 _ y0 (by kernel_rfl) rfl (by kernel_rfl) ?_))
                  refine bodyPost_ret (v := .tuple #[.agg #[.string ⟨#[]⟩, .slice none 0 0, .int .i64 0, .int .i64 0, .int .i64 0, .int .i64 0, .int .i64 0, .int .i64 0, .int .i64 0, .int .i64 0, .int .i64 0], .int .i64 e3]) (results_row_tmp rfl _ _ rfl rfl (holdsC_row y0 _) rfl Try.underlying25 (by kernel_rfl)) rfl ?_
                  exact ⟨none, 0, by rw [HQ1, HQ2.1], by rw [HQ2.2]; exact Kd.C_nil _ _, by rw [HQ2.2]; exact Nat.le_refl _, by rw [HB.out]; exact below_setRow yb (Nat.le_refl _) _⟩
              · have hd : decide ((i : Int) < 2 * (k2 : Int) + 9) = false := decide_eq_false (by omega)
                obtain rfl : i = 2 * k2 + 9 := by omega
                clear hns HS1 HV1
                by_cases hzz : (stR s a2 0 (2 * k2 + 9)).1 < s.size
                · have hzz' : decide (((stR s a2 0 (2 * k2 + 9)).1 : Int) < (s.size : Int)) = true := decide_eq_true (by omega)
                  have HQ0 := HP4.out HSI.out hzz
                  have HQ1 : parseC s = 6 := HQ0
                  have HQ2 := HZ.out (by rw [HQ1]; first | assumption | (intro hh; simp at hh))
                  go_wp2_with (first | (refine wpList_build_as rfl 25 _ rfl #[.string ⟨#[]⟩, .slice none 0 0, .int .i64 0, .int .i64 0, .int .i64 0, .int .i64 0, .int .i64 0, .int .i64 0, .int .i64 0, .int .i64 0, .int .i64 0] (by kernel_rfl) ?_) | (refine wpList_store_row rfl 25 (.tmp 2) (.tmp 90) rfl B #[.string ⟨#[]⟩, .slice none 0 0, .int .i64 0, .int .i64 0, .int .i64 0, .int .i64 0, .int .i64 0, .int .i64 0, .int .i64 0, .int .i64 0, .int .i64 0] rfl rfl 25 _ x0 (by kernel_rfl) rfl (by kernel_rfl) ?_))
                  refine bodyPost_ret (v := .tuple #[.agg #[.string ⟨#[]⟩, .slice none 0 0, .int .i64 0, .int .i64 0, .int .i64 0, .int .i64 0, .int .i64 0, .int .i64 0, .int .i64 0, .int .i64 0, .int .i64 0], .int .i64 6]) (results_row_tmp rfl _ _ rfl rfl (holdsC_row x0 _) rfl Try.underlying25 (by kernel_rfl)) rfl ?_
                  exact ⟨none, 0, by rw [HQ1, HQ2.1], by rw [HQ2.2]; exact Kd.C_nil _ _, by rw [HQ2.2]; exact Nat.le_refl _, by rw [HB.out]; exact below_setRow xb (Nat.le_refl _) _⟩
                · have hzz' : decide (((stR s a2 0 (2 * k2 + 9)).1 : Int) < (s.size : Int)) = false := decide_eq_false (by omega)
                  have HQ5 := Lib.hid (HP5.out HSI.out hzz)
                  clear HP3 HP4 HP5 HSI
                  obtain ⟨ad, cI, hv⟩ := Kd.R_slice1 HXR.out (by rw [hli]; omega)
                  subst hv
                  obtain ⟨AI, cI_, hce, hcap, hCI⟩ := Kd.R_reads HXR.out
                  injection hce with hA _ hcc
                  subst hcc
                  rw [hli] at hcap hCI
                  have HAI := Lib.hid hA
                  clear hA
                  have p1 : (0 ≤ 2 * (k2 : Int)) = True := eq_true (by omega)
                  have p2 : (2 * (k2 : Int) ≤ (cI : Int)) = True := eq_true (by omega)
                  have p3 : (2 * (k2 : Int)).toNat = 2 * k2 := by omega
                  have q1 := x1.cell 1 (.slice none 0 0) rfl
                  have q2 := holdsC_free x1 1
                  have hLl : ((nsR s a2 0 (2 * k2 + 9)).take (2 * k2)).length = 2 * k2 := by rw [List.length_take, nsR_len]; omega
                  have HKN := rknots_any (some ad) cI ((nsR s a2 0 (2 * k2 + 9)).take (2 * k2)) w20 (by omega) (by rw [hLl, HAI.out]; exact Kd.C_of_reads (d := 0) ((Kd.reads_of_C hCI).take_ (2 * k2) (by omega))) (by omega)
                  rw [hLl, HPT.out] at HKN
                  have HKN' := Lib.hid HKN
                  clear HKN hCI hLl
                  have HXI : Hid (Kd.R (Kd.int .i64) 3 w20 (B + 1 + 1) (fun _ => True) (.slice (some ad) (2 * k2 + 9) cI) (nsR s a2 0 (2 * k2 + 9))) := by have := HXR.out; rw [hli] at this; exact this
                  rw [hli]
                  clear HXR hli
                  go_wp2_with fail
                  refine HKN'.out.mono ?_; rintro e w21 ⟨A2, c2, rfl, hRK, b1⟩
                  clear q1 q2 p1 p2 p3 hzz hzz' HKN'
                  have y1 := x1.kept b1 x1.lt
                  have y0 := x0.kept b1 x0.lt
                  have HYI := Lib.hid (Kd.R_below HXI.out b1)
                  have yb := xb.trans (b1.mono (Nat.le_trans (Nat.le_of_eq HB.out.symm) xb.size))
                  have HYK := Lib.hid (Kd.R_lower hRK xz)
                  have yz := Nat.le_trans xz b1.size
                  clear x1 x0 HXI xb b1 hRK xz
                  have q1 := y1.cell 1 (.slice none 0 0) rfl
                  have q2 := holdsC_free y1 1
                  have z1 := holdsC_set y1 1 (.slice A2 (psL s).length c2)
                  rw [profC_set1] at z1
                  have z0 : holdsC (w21.setCell ⟨(B + 1), 1, none⟩ (.slice A2 (psL s).length c2)) B 25 #[.string ⟨#[]⟩, .slice none 0 0, .int .i64 0, .int .i64 0, .int .i64 0, .int .i64 0, .int .i64 0, .int .i64 0, .int .i64 0, .int .i64 0, .int .i64 0] := by
                    unfold holdsC at *
                    rw [Below.heap_setCell w21 ⟨(B + 1), 1, none⟩ _ B (by show B ≠ B + 1; omega)]; exact y0
                  have zb : Below B w (w21.setCell ⟨(B + 1), 1, none⟩ (.slice A2 (psL s).length c2)) := yb.setCell (by show B ≤ B + 1; omega) _
                  have HZI := Lib.hid (Kd.R_set HYI.out (show w21.heap[B + 1]? = _ from y1) (by decide) 1 (.slice A2 (psL s).length c2))
                  have HZK := Lib.hid (Kd.R_set HYK.out (show w21.heap[B + 1]? = _ from y1) (by decide) 1 (.slice A2 (psL s).length c2))
                  have hps0 : (fun _ => (0 : Int)) = psMn s 0 := by funext k; unfold psMn; simp
                  rw [hps0] at z1
                  clear hps0
                  go_wp2_with fail
                  go_loopw [14, 98] (fun _ v98 wr => ∃ j : Nat, j ≤ 9 ∧ v98 = .int .i64 j ∧ holdsC wr (B + 1) 25 (profC nm (.slice A2 (psL s).length c2) (psMn s j)) ∧ holdsC wr B 25 #[.string ⟨#[]⟩, .slice none 0 0, .int .i64 0, .int .i64 0, .int .i64 0, .int .i64 0, .int .i64 0, .int .i64 0, .int .i64 0, .int .i64 0, .int .i64 0] ∧ Hid (Kd.R k72 72 wr (B + 1 + 1) (fun _ => True) (.slice A2 (psL s).length c2) (psL s)) ∧ Hid (Kd.R (Kd.int .i64) 3 wr (B + 1 + 1) (fun _ => True) (.slice (some ad) (2 * k2 + 9) cI) (nsR s a2 0 (2 * k2 + 9))) ∧ Below B w wr) (fun _ v _ => 9 - (intOf v).toNat)
                  case atStart => exact ⟨0, by omega, rfl, z1, z0, HZK, HZI, zb⟩
                  case round =>
                    obtain ⟨j, hj, rfl, x1, x0, HXK, HXI, xb⟩ := hrel
                    clear y1 y0 HYI yb HYK yz q1 q2 z1 z0 zb HZI HZK
                    obtain ⟨w30, hw30⟩ : ∃ w30 : World, w30 = wr := ⟨_, rfl⟩
                    subst hw30
                    by_cases hj9 : j < 9
                    · have hd : decide ((j : Int) < 9) = true := decide_eq_true (by omega)
                      have hat := at_int HXI.out (2 * k2 + j) (by rw [nsR_len]; omega)
                      rw [nsR_get s a2 0 _ _ (by omega)] at hat
                      have i0 : (0 ≤ 2 * (k2 : Int) + (j : Int)) = True := eq_true (by omega)
                      have i1 : (2 * (k2 : Int) + (j : Int) < 2 * (k2 : Int) + 9) = True := eq_true (by omega)
                      have i2 : (2 * (k2 : Int) + (j : Int)).toNat = 2 * k2 + j := by omega
                      have p1 : (0 ≤ (j : Int)) = True := eq_true (by omega)
                      have p2 : ((j : Int) < 9) = True := eq_true (by omega)
                      have cc := x1.cell (2 + j) _ (profC_m _ _ _ j hj9)
                      have ff := holdsC_free x1 (2 + j)
                      have hms : upd (psMn s j) j (vlR s a2 0 (2 * k2 + j)) = psMn s (j + 1) := by
                        funext k
                        have h1 := HPM.out j
                        have h2 := HPM.out (j + 1)
                        rw [h1, h2]
                        unfold upd
                        by_cases h : k = j
                        · subst h; simp
                        · rw [if_neg h]; show (if k < j then vlR s a2 0 (2 * k2 + k) else 0) = if k < j + 1 then vlR s a2 0 (2 * k2 + k) else 0; by_cases h2 : k < j
                          · rw [if_pos h2, if_pos (by omega)]
                          · rw [if_neg h2, if_neg (by omega)]
                      have v1 := holdsC_set x1 (2 + j) (.int .i64 (vlR s a2 0 (2 * k2 + j)))
                      rw [profC_setM, hms] at v1
                      generalize vlR s a2 0 (2 * k2 + j) = vj at *
                      clear hms
                      have v0 : holdsC (w30.setCell ⟨(B + 1), 2 + j, none⟩ (.int .i64 vj)) B 25 #[.string ⟨#[]⟩, .slice none 0 0, .int .i64 0, .int .i64 0, .int .i64 0, .int .i64 0, .int .i64 0, .int .i64 0, .int .i64 0, .int .i64 0, .int .i64 0] := by
                        unfold holdsC at *
                        rw [Below.heap_setCell w30 ⟨(B + 1), 2 + j, none⟩ _ B (by show B ≠ B + 1; omega)]; exact x0
                      have HVI := Lib.hid (Kd.R_set HXI.out (show w30.heap[B + 1]? = _ from x1) (by decide) (2 + j) (.int .i64 vj))
                      have HVK := Lib.hid (Kd.R_set HXK.out (show w30.heap[B + 1]? = _ from x1) (by decide) (2 + j) (.int .i64 vj))
                      have vb : Below B w (w30.setCell ⟨(B + 1), 2 + j, none⟩ (.int .i64 vj)) := xb.setCell (by show B ≤ B + 1; omega) _
                      go_wp2_with fail
                      go_roundw
                      case rel => exact ⟨j + 1, by omega, by go_num, v1, v0, HVK, HVI, vb⟩
                      case measure => simp [intOf]; omega
                    · have hd : decide ((j : Int) < 9) = false := decide_eq_false (by omega)
                      obtain rfl : j = 9 := by omega
                      have HRC := R_C HXK.out
                      have HCK := Lib.hid (rpcheck_any nm A2 c2 (psL s) (psMn s 9) w30 (by rw [← HPN1.out]; have := psN_size s; omega) HRC.2 HRC.1)
                      clear HRC
                      generalize profCheck nm (psL s) (psMn s 9) = pc at *
                      go_wp2_with (refine wpList_load_row rfl 25 (.tmp 4) rfl (B + 1) rfl 25 (profC nm (.slice A2 (psL s).length c2) (psMn s 9)) (0, 0) _ x1 Try.underlying25 rfl (profC_info _ _ _) ?_)
                      refine HCK.out.mono ?_; rintro e w33 ⟨rfl, b1⟩
                      have u1 := x1.kept b1 x1.lt
                      have u0 := x0.kept b1 x0.lt
                      have HUR := Lib.hid (Kd.R_below HXK.out b1)
                      have ub := xb.trans (b1.mono (Nat.le_trans (Nat.le_of_eq HB.out.symm) xb.size))
                      clear x1 x0 xb b1 HXK HXI HCK
                      by_cases hC : pc = 0
                      · have hC' : (pc == 0) = true := by simpa using hC
                        obtain ⟨q1, q2, q3⟩ := HG.out (HQ5.out.trans hC)
                        have q4 := HQ5.out.trans hC
                        rw [HPN1.out] at q1
                        go_wp2_with (first | (refine wpList_load_row rfl 25 (.tmp 4) rfl (B + 1) rfl 25 (profC nm (.slice A2 (psL s).length c2) (psMn s 9)) (0, 0) _ u1 Try.underlying25 rfl (profC_info _ _ _) ?_) | (refine wpList_store_row rfl 25 (.tmp 2) (.tmp 119) rfl B (profC nm (.slice A2 (psL s).length c2) (psMn s 9)) rfl rfl 25 _ u0 (profC_info _ _ _) (by rw [profC_size]; rfl) (profC_one _ _ _ rfl) ?_))
                        have hR := R_C (R_setRow HUR.out (g := B) (by omega) (profC nm (.slice A2 (psL s).length c2) (psMn s 9)))
                        refine bodyPost_ret (v := .tuple #[.agg (profC nm (.slice A2 (psL s).length c2) (psMn s 9)), .int .i64 0]) (results_row_tmp rfl _ _ rfl rfl (holdsC_row u0 _) rfl Try.underlying25 (profC_info _ _ _)) rfl ?_
                        exact ⟨A2, c2, by rw [q4, q1, q2, q3], by rw [q2]; exact hR.2, by rw [q2]; exact hR.1, by rw [HB.out]; exact below_setRow ub (Nat.le_refl _) _⟩
                      · have hC' : (pc == 0) = false := by simpa using hC
                        have HQ0 := HQ5.out
                        have HQ1 : parseC s = pc := HQ0
                        have HQ2 := HZ.out (by rw [HQ1]; first | assumption | (intro hh; simp at hh))
                        go_wp2_with (first | (refine wpList_build_as rfl 25 _ rfl #[.string ⟨#[]⟩, .slice none 0 0, .int .i64 0, .int .i64 0, .int .i64 0, .int .i64 0, .int .i64 0, .int .i64 0, .int .i64 0, .int .i64 0, .int .i64 0] (by kernel_rfl) ?_) | (refine wpList_store_row rfl 25 (.tmp 2) (.tmp 117) rfl B #[.string ⟨#[]⟩, .slice none 0 0, .int .i64 0, .int .i64 0, .int .i64 0, .int .i64 0, .int .i64 0, .int .i64 0, .int .i64 0, .int .i64 0, .int .i64 0] rfl rfl 25 _ u0 (by kernel_rfl) rfl (by kernel_rfl) ?_))
                        refine bodyPost_ret (v := .tuple #[.agg #[.string ⟨#[]⟩, .slice none 0 0, .int .i64 0, .int .i64 0, .int .i64 0, .int .i64 0, .int .i64 0, .int .i64 0, .int .i64 0, .int .i64 0, .int .i64 0], .int .i64 pc]) (results_row_tmp rfl _ _ rfl rfl (holdsC_row u0 _) rfl Try.underlying25 (by kernel_rfl)) rfl ?_
                        exact ⟨none, 0, by rw [HQ1, HQ2.1], by rw [HQ2.2]; exact Kd.C_nil _ _, by rw [HQ2.2]; exact Nat.le_refl _, by rw [HB.out]; exact below_setRow ub (Nat.le_refl _) _⟩
        · have he2' : (e1_ == 0) = false := by simpa using he2
          clear hnx
          have hpc := psC_1 s HPN.out HR2.out he2
          have HQ1 : parseC s = e1_ := by have := parse2 s (by rw [hpc]; exact he2); rw [this, hpc]
          have HQ2 := HZ.out (by rw [HQ1]; first | assumption | (intro hh; simp at hh))
          go_wp2_with (first | (refine wpList_build_as rfl 25 _ rfl #[.string ⟨#[]⟩, .slice none 0 0, .int .i64 0, .int .i64 0, .int .i64 0, .int .i64 0, .int .i64 0, .int .i64 0, .int .i64 0, .int .i64 0, .int .i64 0] (by kernel_rfl) ?_) | (refine wpList_store_row rfl 25 (.tmp 2) (.tmp 56) rfl B #[.string ⟨#[]⟩, .slice none 0 0, .int .i64 0, .int .i64 0, .int .i64 0, .int .i64 0, .int .i64 0, .int .i64 0, .int .i64 0, .int .i64 0, .int .i64 0] rfl rfl 25 _ g0 (by kernel_rfl) rfl (by kernel_rfl) ?_))
          refine bodyPost_ret (v := .tuple #[.agg #[.string ⟨#[]⟩, .slice none 0 0, .int .i64 0, .int .i64 0, .int .i64 0, .int .i64 0, .int .i64 0, .int .i64 0, .int .i64 0, .int .i64 0, .int .i64 0], .int .i64 e1_]) (results_row_tmp rfl _ _ rfl rfl (holdsC_row g0 _) rfl Try.underlying25 (by kernel_rfl)) rfl ?_
          exact ⟨none, 0, by rw [HQ1, HQ2.1], by rw [HQ2.2]; exact Kd.C_nil _ _, by rw [HQ2.2]; exact Nat.le_refl _, by rw [HB.out]; exact below_setRow gb (Nat.le_refl _) _⟩
  · have he1' : (e1 == 0) = false := by simpa using he1
    clear hnx
    have hpn := psN_1 s HR1.out he1
    have HQ1 : parseC s = e1 := by have := parse1 s (by rw [hpn]; exact he1); rw [this, hpn]
    have HQ2 := HZ.out (by rw [HQ1]; first | assumption | (intro hh; simp at hh))
    go_wp2_with (first | (refine wpList_build_as rfl 25 _ rfl #[.string ⟨#[]⟩, .slice none 0 0, .int .i64 0, .int .i64 0, .int .i64 0, .int .i64 0, .int .i64 0, .int .i64 0, .int .i64 0, .int .i64 0, .int .i64 0] (by kernel_rfl) ?_) | (refine wpList_store_row rfl 25 (.tmp 2) (.tmp 23) rfl B #[.string ⟨#[]⟩, .slice none 0 0, .int .i64 0, .int .i64 0, .int .i64 0, .int .i64 0, .int .i64 0, .int .i64 0, .int .i64 0, .int .i64 0, .int .i64 0] rfl rfl 25 _ g0 (by kernel_rfl) rfl (by kernel_rfl) ?_))
    refine bodyPost_ret (v := .tuple #[.agg #[.string ⟨#[]⟩, .slice none 0 0, .int .i64 0, .int .i64 0, .int .i64 0, .int .i64 0, .int .i64 0, .int .i64 0, .int .i64 0, .int .i64 0, .int .i64 0], .int .i64 e1]) (results_row_tmp rfl _ _ rfl rfl (holdsC_row g0 _) rfl Try.underlying25 (by kernel_rfl)) rfl ?_
    exact ⟨none, 0, by rw [HQ1, HQ2.1], by rw [HQ2.2]; exact Kd.C_nil _ _, by rw [HQ2.2]; exact Nat.le_refl _, by rw [HB.out]; exact below_setRow gb (Nat.le_refl _) _⟩
end Go.Proofs.Ytlpfepcmpccbeaa.Pt
