/-
  Proved: contracts of functions of the program and of the reference, several texts of mine in one; the conditions stand at each theorem.
-/
import Derived.Test.YtlpfepcmpccbeaaZS
/-
  Numbers read from a text: the reference's Number.
-/
namespace Go.Proofs.Ytlpfepcmpccbeaa.Pt
open Go.RowKit Go.Proofs.Ytlpfepcmpccbeaa.NM Go.Proofs.Ytlpfepcmpccbeaa.Cv Go.Proofs.Ytlpfepcmpccbeaa.Wi Go.Proofs.Ytlpfepcmpccbeaa.Nm9 Go.Proofs.Ytlpfepcmpccbeaa.Mx Go.Proofs.Ytlpfepcmpccbeaa.Pf Go.Proofs.Ytlpfepcmpccbeaa.PNum Go.Proofs.YtlpfepcmpccbeaaW.PrintWords Go.Proofs.YtlpfepcmpccbeaaW.PrintMore Go.Proofs.YtlpfepcmpccbeaaW.PrintLast
set_option linter.unusedVariables false

def pw7 (i : Nat) : Int := ((128 ^ i : Nat) : Int)
/-- a byte is a wrong one -/
def badB (c : Int) (i : Nat) : Bool := (decide (i = 9) && decide (1 < c)) || (decide (0 < i) && decide (c = 0))
/-- a number from a place on: the number, the place behind it, the error -/
def numF (s : ByteArray) (a : Nat) : Nat → Nat → Int → Int × Nat × Int
  | 0, _, _ => (0, a, 4)
  | f + 1, i, n => if s.size ≤ a + i then (0, a, 5) else if badB (bt s ((a + i : Nat) : Int)) i = true then (0, a, 4)
      else if bt s ((a + i : Nat) : Int) < 128 then (n + bt s ((a + i : Nat) : Int) % 128 * pw7 i, a + i + 1, 0) else numF s a f (i + 1) (n + bt s ((a + i : Nat) : Int) % 128 * pw7 i)
def numS (s : ByteArray) (a : Nat) : Int × Nat × Int := numF s a 10 0 0
theorem pw7_succ (i : Nat) : pw7 (i + 1) = 128 * pw7 i := by
  unfold pw7; rw [Nat.pow_succ]; omega
theorem pw7_pos (i : Nat) : 0 < pw7 i := by
  unfold pw7; have : 0 < 128 ^ i := Nat.pow_pos (by omega); omega
theorem pw7_le {i : Nat} (h : i ≤ 9) : pw7 i ≤ 9223372036854775808 := by
  unfold pw7
  have : 128 ^ i ≤ 128 ^ 9 := Nat.pow_le_pow_right (by omega) h
  have e : 128 ^ 9 = 9223372036854775808 := by decide
  omega
theorem and127 (c : Int) (h : 0 ≤ c ∧ c ≤ 255) : Go.bits .and .u8 c 127 = c % 128 := by
  rw [u8_and c 127 (by omega) (by omega) (by omega) (by omega)]
  have e : ((127 : Int).toNat) = 2 ^ 7 - 1 := by decide
  rw [e, Nat.and_two_pow_sub_one_eq_mod]
  omega
theorem digit_bound {n c : Int} {i : Nat} (hn : 0 ≤ n ∧ n < pw7 i) (hc : 0 ≤ c ∧ c ≤ 255) : 0 ≤ n + c % 128 * pw7 i ∧ n + c % 128 * pw7 i < pw7 (i + 1) := by
  have hp := pw7_pos i
  rw [pw7_succ]
  have h1 : 0 ≤ c % 128 ∧ c % 128 ≤ 127 := by omega
  generalize c % 128 = d at *
  obtain ⟨d, rfl⟩ : ∃ k : Nat, d = k := ⟨d.toNat, by omega⟩
  generalize pw7 i = p at *
  obtain ⟨p, rfl⟩ : ∃ k : Nat, p = k := ⟨p.toNat, by omega⟩
  have h2 : d * p ≤ 127 * p := Nat.mul_le_mul_right _ (by omega)
  have h3 : ((d : Int) * (p : Int)) = ((d * p : Nat) : Int) := by simp
  rw [h3]
  omega
theorem or_shift (a d i : Nat) (ha : a < 2 ^ i) : a ||| d * 2 ^ i = a + d * 2 ^ i := by
  rw [Nat.or_comm, Nat.add_comm, Nat.mul_comm]
  exact (Nat.two_pow_add_eq_or_of_lt ha d).symm
theorem orshl (n c : Int) (i : Nat) (hn : 0 ≤ n ∧ n < pw7 i) (hc : 0 ≤ c ∧ c ≤ 255) (hi : i ≤ 9) (h9 : i = 9 → c ≤ 1) : Go.bits .or .u64 n (shl .u64 (c % 128) (7 * (i : Int))) = n + c % 128 * pw7 i := by
  have hb := digit_bound hn hc
  have hd : 0 ≤ c % 128 ∧ c % 128 ≤ 127 := by omega
  have hd9 : i = 9 → c % 128 ≤ 1 := fun h => by have := h9 h; omega
  generalize c % 128 = d at *
  obtain ⟨d, rfl⟩ : ∃ k : Nat, d = k := ⟨d.toNat, by omega⟩
  obtain ⟨n, rfl⟩ : ∃ k : Nat, n = k := ⟨n.toNat, by omega⟩
  have e1 : (7 * (i : Int)).toNat = 7 * i := by omega
  have e2 : min (7 * i) 64 = 7 * i := by omega
  have e3 : (2 : Int) ^ (7 * i) = pw7 i := by
    rw [Int.pow_mul]
    unfold pw7
    rw [Int.natCast_pow]
    rfl
  have hp := pw7_pos i
  have hpl := pw7_le hi
  have e4 : (d : Int) * pw7 i ≤ 9223372036854775808 := by
    by_cases h : i = 9
    · have := hd9 h
      have : (d : Int) * pw7 i ≤ 1 * pw7 i := Int.mul_le_mul_of_nonneg_right (by omega) (by omega)
      omega
    · have h8 : pw7 (i + 1) ≤ 9223372036854775808 := pw7_le (by omega)
      rw [pw7_succ] at h8
      have : (d : Int) * pw7 i ≤ 128 * pw7 i := Int.mul_le_mul_of_nonneg_right (by omega) (by omega)
      omega
  have e5 : 0 ≤ (d : Int) * pw7 i := Int.mul_nonneg (by omega) (by omega)
  have e6 : shl .u64 (d : Int) (7 * (i : Int)) = (d : Int) * pw7 i := by
    unfold shl
    rw [e1, show IntKind.u64.bits = 64 from rfl, e2, e3, IntKind.wrap_u64]
    omega
  rw [e6]
  have e7 : (d : Int) * pw7 i = ((d * 2 ^ (7 * i) : Nat) : Int) := by
    unfold pw7
    rw [Nat.pow_mul]
    simp
  rw [e7, u64_or_nat n (d * 2 ^ (7 * i)) (by omega) (by omega), or_shift]
  · simp
  · have := hn.2
    unfold pw7 at this
    rw [Nat.pow_mul]
    show n < 128 ^ i
    omega
theorem badB9 {c : Int} (h : badB c 9 = false) : c ≤ 1 := by
  unfold badB at h
  simp at h
  omega
end Go.Proofs.Ytlpfepcmpccbeaa.Pt
/-
  The reader: right, Err, Uint.
-/
namespace Go.Proofs.Ytlpfepcmpccbeaa.Pt
open Go.RowKit Go.Proofs.Ytlpfepcmpccbeaa.NM Go.Proofs.Ytlpfepcmpccbeaa.Cv Go.Proofs.Ytlpfepcmpccbeaa.Wi Go.Proofs.Ytlpfepcmpccbeaa.Nm9 Go.Proofs.Ytlpfepcmpccbeaa.Mx Go.Proofs.Ytlpfepcmpccbeaa.Pf Go.Proofs.Ytlpfepcmpccbeaa.PNum Go.Proofs.YtlpfepcmpccbeaaW.PrintWords Go.Proofs.YtlpfepcmpccbeaaW.PrintMore Go.Proofs.YtlpfepcmpccbeaaW.PrintLast
set_option linter.unusedVariables false

/-- the cells of a reader -/
def rdC (s : ByteArray) (a : Nat) (e : Int) : Array Value := #[.string s, .int .i64 (a : Int), .int .i64 e, .bool true]
/-- nothing but block g has changed -/
def But (g : Nat) (w w' : World) : Prop := (w'.os = w.os ∧ w'.tape = w.tape ∧ w'.output = w.output) ∧ w.heap.size ≤ w'.heap.size ∧ ∀ k, k < w.heap.size → k ≠ g → w'.heap[k]? = w.heap[k]?
theorem But.refl (g : Nat) (w : World) : But g w w := ⟨⟨rfl, rfl, rfl⟩, Nat.le_refl _, fun _ _ _ => rfl⟩
theorem But.drewN {g : Nat} {a b : World} (h : But g a b) (n : Nat) : But g a (b.drewN n) := h
theorem But.row {g : Nat} {a b : World} (h : But g a b) (c : Array Value) : But g a (b.setRow g c) :=
  ⟨h.1, by simpa [World.setRow] using h.2.1, fun k hk hg => by
    rw [← h.2.2 k hk hg]
    simp only [World.setRow]
    rw [Array.getElem?_modify, if_neg (by omega)]⟩
theorem But.below {g B : Nat} {a b c : World} (h : But g b c) (hb : Below B a b) (hg : B ≤ g) (hB : B ≤ b.heap.size) : Below B a c :=
  ⟨h.1.1.trans hb.os, h.1.2.1.trans hb.tape, h.1.2.2.trans hb.output, Nat.le_trans hb.size h.2.1, fun k hk => (h.2.2 k (by omega) (by omega)).trans (hb.block k hk)⟩
theorem But.kept {g q t : Nat} {a b : World} {c : Array Value} (h : But g a b) (hh : holdsC a q t c) (hne : q ≠ g) : holdsC b q t c := by
  have := hh.lt
  unfold holdsC
  rw [h.2.2 q this hne]; exact hh
def rU (s : ByteArray) (a : Nat) (e : Int) : Int × Nat × Int := if e = 0 then numS s a else (0, a, e)
theorem right_any (s : ByteArray) (a : Nat) (e : Int) (g : Nat) (w : World) (h : holdsC w g 101 (rdC s a e)) :
    Calls Try.prog 88 #[.pointer (some ⟨g, 0, none⟩)] w fun en w' => en = .returned (.bool (e == 0)) ∧ w' = w := by
  have c3 := h.cell 3 (.bool true) rfl
  have c2 := h.cell 2 (.int .i64 e) rfl
  go_enter Try.func88, Try.ntmps88
  go_wp2
  go_ret
  exact ⟨rfl, rfl⟩
theorem err_any (s : ByteArray) (a : Nat) (e : Int) (g : Nat) (w : World) (h : holdsC w g 101 (rdC s a e)) :
    Calls Try.prog 90 #[.pointer (some ⟨g, 0, none⟩)] w fun en w' => en = .returned (.int .i64 e) ∧ w' = w := by
  have c3 := h.cell 3 (.bool true) rfl
  have c2 := h.cell 2 (.int .i64 e) rfl
  go_enter Try.func90, Try.ntmps90
  go_wp2
  go_ret
  exact ⟨rfl, rfl⟩
theorem holdsC_free {w : World} {g t : Nat} {c : Array Value} (h : holdsC w g t c) (k : Nat) : w.frozen? ⟨g, k, none⟩ = false := by
  have h' : w.heap[g]? = some (.cells c t (0, 0)) := h
  simp [World.frozen?, h']
theorem holdsC_set {w : World} {g t : Nat} {c : Array Value} (h : holdsC w g t c) (k : Nat) (v : Value) : holdsC (w.setCell ⟨g, k, none⟩ v) g t (c.setIfInBounds k v) := by
  unfold holdsC
  rw [setCell_eq_setRow w g k _ t _ _ h, setRow_heap w g _ _ t _ h]
theorem But.cell {g : Nat} {a b : World} (h : But g a b) (k : Nat) (v : Value) : But g a (b.setCell ⟨g, k, none⟩ v) :=
  ⟨h.1, by simpa [World.setCell] using h.2.1, fun j hj hg => by
    rw [← h.2.2 j hj hg]
    simp only [World.setCell]
    rw [Array.getElem?_modify, if_neg (by omega)]⟩
theorem orshl' (n c : Int) (i : Nat) (hn : 0 ≤ n ∧ n < pw7 i) (hc : 0 ≤ c ∧ c ≤ 255) (hi : i ≤ 9) (h9 : i = 9 → c ≤ 1) : Go.bits .or .u64 n (IntKind.u64.wrap (c % 128 * 2 ^ (7 * (i : Int)).toNat)) = n + c % 128 * pw7 i := by
  have h := orshl n c i hn hc hi h9
  unfold shl at h
  rwa [show min (7 * (i : Int)).toNat IntKind.u64.bits = (7 * (i : Int)).toNat from (by show min _ 64 = _; omega)] at h
theorem numF_succ (s : ByteArray) (a f i : Nat) (n : Int) : numF s a (f + 1) i n = if s.size ≤ a + i then (0, a, 5) else if badB (bt s ((a + i : Nat) : Int)) i = true then (0, a, 4)
      else if bt s ((a + i : Nat) : Int) < 128 then (n + bt s ((a + i : Nat) : Int) % 128 * pw7 i, a + i + 1, 0) else numF s a f (i + 1) (n + bt s ((a + i : Nat) : Int) % 128 * pw7 i) := (Eq.refl _).trans rfl
set_option maxRecDepth 20000 in
set_option maxHeartbeats 4000000 in
theorem uint_ok (s : ByteArray) (a : Nat) (g : Nat) (w : World) (hs : s.size ≤ 140737488355232) (ha : a ≤ 140737488355232) (h : holdsC w g 101 (rdC s a 0)) :
    Calls Try.prog 89 #[.pointer (some ⟨g, 0, none⟩)] w fun en w' => en = .returned (.int .u64 (numS s a).1) ∧ holdsC w' g 101 (rdC s (numS s a).2.1 (numS s a).2.2) ∧ But g w w' := by
  have HN : Hid (numS s a = numF s a (10 - 0) 0 0) := rfl
  go_enter Try.func89, Try.ntmps89
  go_wp2_with fail
  refine (right_any s a 0 g w h).mono ?_; rintro e w' ⟨rfl, rfl⟩
  have c1 := h.cell 1 (.int .i64 (a : Int)) rfl
  go_wp2
  go_quiet (fail)
  have h1 : holdsC (w'.drewN nq) g 101 (rdC s a 0) := h
  have hb : But g w' (w'.drewN nq) := (But.refl g w').drewN nq
  clear c1
  go_wp2_with fail
  go_loopw [2, 3, 4, 5, 6, 14] (fun _ v3 v4 _ _ v14 wr => ∃ (i : Nat) (n : Int), i ≤ 10 ∧ v14 = .int .i64 i ∧ v3 = .int .u64 n ∧ v4 = .int .i64 ((a + i : Nat) : Int) ∧ Hid (0 ≤ n ∧ n < pw7 i) ∧ Hid (numS s a = numF s a (10 - i) i n) ∧ holdsC wr g 101 (rdC s a 0) ∧ But g w' wr) (fun _ _ _ _ _ v _ => 10 - (intOf v).toNat)
  case atStart => exact ⟨0, 0, by omega, rfl, rfl, rfl, ⟨by omega, pw7_pos 0⟩, HN, h1, hb⟩
  case round =>
    obtain ⟨i, n, hi, rfl, rfl, rfl, hn, HQ, x, xb⟩ := hrel
    clear h1 hb HN
    have c2 := x.cell 2 (.int .i64 0) rfl
    have f2 := holdsC_free x 2
    have c1 := x.cell 1 (.int .i64 (a : Int)) rfl
    have f1 := holdsC_free x 1
    by_cases hi10 : i < 10
    · have hd : decide ((i : Int) < 10) = true := decide_eq_true (by omega)
      have h10 : 10 - i = (10 - (i + 1)) + 1 := by omega
      rw [h10, numF_succ] at HQ
      have c0 := x.cell 0 (.string s) rfl
      by_cases hz : s.size ≤ a + i
      · have hd2 : decide ((s.size : Int) ≤ ((a + i : Nat) : Int)) = true := decide_eq_true (by omega)
        have HR : Hid (numS s a = (0, a, 5)) := by show _ = _; rw [HQ.out, if_pos hz]
        clear HQ
        go_wp2
        go_ret
        exact ⟨by rw [HR.out]; rfl, by rw [HR.out]; exact holdsC_set x 2 _, xb.cell 2 _⟩
      · have hd2 : decide ((s.size : Int) ≤ ((a + i : Nat) : Int)) = false := decide_eq_false (by omega)
        rw [if_neg hz] at HQ
        have q1 : (0 ≤ ((a + i : Nat) : Int)) = True := eq_true (by omega)
        have q2 : (((a + i : Nat) : Int) < (s.size : Int)) = True := eq_true (by omega)
        have hbt := bt_at s ((a + i : Nat) : Int)
        have hbr := bt_range s ((a + i : Nat) : Int)
        generalize hc : bt s ((a + i : Nat) : Int) = c at *
        clear hc
        have q3 : -4 ≤ ((a + i : Nat) : Int) ∧ ((a + i : Nat) : Int) ≤ 281474976710656 := by omega
        have q4 : (0 : Int) ≤ (i : Int) ∧ (i : Int) ≤ 9 := by omega
        have HJ1 : Hid (((a + i : Nat) : Int) + 1 = ((a + (i + 1) : Nat) : Int)) := by show _ = _; omega
        have HI1 : Hid ((i : Int) + 1 = ((i + 1 : Nat) : Int)) := by show _ = _; omega
        have HHI := Lib.hid hi10
        have HH10 := Lib.hid h10
        have HHZ := Lib.hid hz
        clear hi hi10 h10 hz
        by_cases h9 : i = 9
        · have e1 : ((i : Int) == 9) = true := by simp; omega
          have H9 := Lib.hid h9
          have e4 : decide (0 < (i : Int)) = true := decide_eq_true (by omega)
          by_cases h1c : 1 < c
          · have e2 : decide (1 < c) = true := decide_eq_true h1c
            have HR : Hid (numS s a = (0, a, 4)) := by show _ = _; rw [HQ.out, if_pos (by unfold badB; simp [h9, h1c])]
            clear HQ h9
            generalize hJ : ((a + i : Nat) : Int) = J at *
            have HJ := Lib.hid hJ
            clear hJ
            generalize hI : (i : Int) = I at *
            have HI := Lib.hid hI
            clear hI
            go_wp2
            go_ret
            exact ⟨by rw [HR.out]; rfl, by rw [HR.out]; exact holdsC_set x 2 _, xb.cell 2 _⟩
          · have e2 : decide (1 < c) = false := decide_eq_false h1c
            by_cases h0c : c = 0
            · have e3 : (c == 0) = true := by simpa using h0c
              have HR : Hid (numS s a = (0, a, 4)) := by show _ = _; rw [HQ.out, if_pos (by unfold badB; simp [h9, h0c])]
              clear HQ h9
              generalize hJ : ((a + i : Nat) : Int) = J at *
              have HJ := Lib.hid hJ
              clear hJ
              generalize hI : (i : Int) = I at *
              have HI := Lib.hid hI
              clear hI
              go_wp2
              go_ret
              exact ⟨by rw [HR.out]; rfl, by rw [HR.out]; exact holdsC_set x 2 _, xb.cell 2 _⟩
            · have e3 : (c == 0) = false := by simpa using h0c
              rw [if_neg (show ¬ badB c i = true by unfold badB; simp [h9, h0c, h1c])] at HQ
              have k9 : i = 9 → c ≤ 1 := by intro hh; omega
              have a1 := and127 c hbr
              have a4 : IntKind.u64.wrap (c % 128) = c % 128 := wu (by omega) (by omega)
              have A5 := Lib.hid (orshl' n c i hn.out hbr (by omega) k9)
              have A6 := Lib.hid (digit_bound hn.out hbr)
              clear h9 k9
              skip
              by_cases hc : c < 128
              · have hc' : decide (c < 128) = true := decide_eq_true hc
                have HR : Hid (numS s a = (n + c % 128 * pw7 i, a + i + 1, 0)) := by show _ = _; rw [HQ.out, if_pos hc]
                generalize hJ : ((a + i : Nat) : Int) = J at *
                have HJ := Lib.hid hJ
                clear hJ
                generalize hI : (i : Int) = I at *
                have HI := Lib.hid hI
                clear hI
                go_wp2
                go_ret
                exact ⟨by rw [HR.out, ← A5.out]; rfl, by rw [HR.out]; have := holdsC_set x 1 (.int .i64 (J + 1)); rw [HJ1.out] at this ⊢; exact this, xb.cell 1 _⟩
              · exfalso; omega
        · have e1 : ((i : Int) == 9) = false := by simp; omega
          have H9 := Lib.hid h9
          by_cases h0c : c = 0
          · have e3 : (c == 0) = true := by simpa using h0c
            by_cases hi0 : 0 < i
            · have e4 : decide (0 < (i : Int)) = true := decide_eq_true (by omega)
              have HR : Hid (numS s a = (0, a, 4)) := by show _ = _; rw [HQ.out, if_pos (by unfold badB; simp [h9, h0c, hi0])]
              clear HQ h9
              generalize hJ : ((a + i : Nat) : Int) = J at *
              have HJ := Lib.hid hJ
              clear hJ
              generalize hI : (i : Int) = I at *
              have HI := Lib.hid hI
              clear hI
              go_wp2
              go_ret
              exact ⟨by rw [HR.out]; rfl, by rw [HR.out]; exact holdsC_set x 2 _, xb.cell 2 _⟩
            · have e4 : decide (0 < (i : Int)) = false := decide_eq_false (by omega)
              rw [if_neg (show ¬ badB c i = true by unfold badB; simp [h9, hi0])] at HQ
              have k9 : i = 9 → c ≤ 1 := by intro hh; exact absurd hh h9
              have a1 := and127 c hbr
              have a4 : IntKind.u64.wrap (c % 128) = c % 128 := wu (by omega) (by omega)
              have A5 := Lib.hid (orshl' n c i hn.out hbr (by omega) k9)
              have A6 := Lib.hid (digit_bound hn.out hbr)
              clear h9 k9
              have H0 := Lib.hid h0c
              have h1c : c < 128 := by omega
              clear h0c
              by_cases hc : c < 128
              · have hc' : decide (c < 128) = true := decide_eq_true hc
                have HR : Hid (numS s a = (n + c % 128 * pw7 i, a + i + 1, 0)) := by show _ = _; rw [HQ.out, if_pos hc]
                generalize hJ : ((a + i : Nat) : Int) = J at *
                have HJ := Lib.hid hJ
                clear hJ
                generalize hI : (i : Int) = I at *
                have HI := Lib.hid hI
                clear hI
                go_wp2
                go_ret
                exact ⟨by rw [HR.out, ← A5.out]; rfl, by rw [HR.out]; have := holdsC_set x 1 (.int .i64 (J + 1)); rw [HJ1.out] at this ⊢; exact this, xb.cell 1 _⟩
              · exfalso; omega
          · have e3 : (c == 0) = false := by simpa using h0c
            rw [if_neg (show ¬ badB c i = true by unfold badB; simp [h9, h0c])] at HQ
            have k9 : i = 9 → c ≤ 1 := by intro hh; exact absurd hh h9
            have a1 := and127 c hbr
            have a4 : IntKind.u64.wrap (c % 128) = c % 128 := wu (by omega) (by omega)
            have A5 := Lib.hid (orshl' n c i hn.out hbr (by omega) k9)
            have A6 := Lib.hid (digit_bound hn.out hbr)
            clear h9 k9
            skip
            by_cases hc : c < 128
            · have hc' : decide (c < 128) = true := decide_eq_true hc
              have HR : Hid (numS s a = (n + c % 128 * pw7 i, a + i + 1, 0)) := by show _ = _; rw [HQ.out, if_pos hc]
              generalize hJ : ((a + i : Nat) : Int) = J at *
              have HJ := Lib.hid hJ
              clear hJ
              generalize hI : (i : Int) = I at *
              have HI := Lib.hid hI
              clear hI
              go_wp2
              go_ret
              exact ⟨by rw [HR.out, ← A5.out]; rfl, by rw [HR.out]; have := holdsC_set x 1 (.int .i64 (J + 1)); rw [HJ1.out] at this ⊢; exact this, xb.cell 1 _⟩
            · have hc' : decide (c < 128) = false := decide_eq_false hc
              have HR : Hid (numS s a = numF s a (10 - (i + 1)) (i + 1) (n + c % 128 * pw7 i)) := by show _ = _; rw [HQ.out, if_neg hc]
              generalize hJ : ((a + i : Nat) : Int) = J at *
              have HJ := Lib.hid hJ
              clear hJ
              generalize hI : (i : Int) = I at *
              have HI := Lib.hid hI
              clear hI
              go_wp2
              go_roundw
              case rel => exact ⟨i + 1, _, HHI.out, by rw [HI1.out], by rw [A5.out], by rw [HJ1.out], A6, HR, x, xb⟩
              case measure => rw [← HI.out]; have := HHI.out; simp [intOf]; omega
    · have hd : decide ((i : Int) < 10) = false := decide_eq_false (by omega)
      have HR : Hid (numS s a = (0, a, 4)) := by show _ = _; rw [HQ.out, show 10 - i = 0 by omega]; rfl
      go_wp2
      go_ret
      exact ⟨by rw [HR.out]; rfl, by rw [HR.out]; exact holdsC_set x 2 _, xb.cell 2 _⟩
end Go.Proofs.Ytlpfepcmpccbeaa.Pt
/-
  The reader: Uint with an error, Int, Count, Text, End.
-/
namespace Go.Proofs.Ytlpfepcmpccbeaa.Pt
open Go.RowKit Go.Proofs.Ytlpfepcmpccbeaa.NM Go.Proofs.Ytlpfepcmpccbeaa.Cv Go.Proofs.Ytlpfepcmpccbeaa.Wi Go.Proofs.Ytlpfepcmpccbeaa.Nm9 Go.Proofs.Ytlpfepcmpccbeaa.Mx Go.Proofs.Ytlpfepcmpccbeaa.Pf Go.Proofs.Ytlpfepcmpccbeaa.PNum Go.Proofs.YtlpfepcmpccbeaaW.PrintWords Go.Proofs.YtlpfepcmpccbeaaW.PrintMore Go.Proofs.YtlpfepcmpccbeaaW.PrintLast
set_option linter.unusedVariables false

theorem numF_range (s : ByteArray) (a : Nat) : ∀ (f i : Nat) (n : Int), f + i = 10 → 0 ≤ n ∧ n < pw7 i → (0 ≤ (numF s a f i n).1 ∧ (numF s a f i n).1 < 18446744073709551616) ∧ ((numF s a f i n).2.2 = 0 → a < (numF s a f i n).2.1 ∧ (numF s a f i n).2.1 ≤ s.size) ∧ ((numF s a f i n).2.2 ≠ 0 → (numF s a f i n).1 = 0 ∧ (numF s a f i n).2.1 = a) ∧ ((numF s a f i n).2.2 = 0 ∨ (numF s a f i n).2.2 = 4 ∨ (numF s a f i n).2.2 = 5)
  | 0, i, n, hf, hn => by simp [numF]
  | f + 1, i, n, hf, hn => by
    rw [numF_succ]
    by_cases hz : s.size ≤ a + i
    · rw [if_pos hz]; simp
    · rw [if_neg hz]
      have hbr := bt_range s ((a + i : Nat) : Int)
      generalize bt s ((a + i : Nat) : Int) = c at *
      by_cases hb : badB c i = true
      · rw [if_pos hb]; simp
      · rw [if_neg hb]
        have hd := digit_bound hn hbr
        by_cases hc : c < 128
        · rw [if_pos hc]
          refine ⟨⟨hd.1, ?_⟩, fun _ => ⟨by show a < a + i + 1; omega, by show a + i + 1 ≤ _; omega⟩, fun h => absurd rfl h, .inl rfl⟩
          show n + c % 128 * pw7 i < _
          by_cases h9 : i = 9
          · have h1 : c ≤ 1 := by
              subst h9
              exact badB9 (by simpa using hb)
            have h2 : c % 128 ≤ 1 := by omega
            have h3 : pw7 i ≤ 9223372036854775808 := pw7_le (by omega)
            have h4 : c % 128 * pw7 i ≤ 1 * pw7 i := Int.mul_le_mul_of_nonneg_right h2 (by have := pw7_pos i; omega)
            omega
          · have h3 : pw7 (i + 1) ≤ 9223372036854775808 := pw7_le (by omega)
            omega
        · rw [if_neg hc]
          exact numF_range s a f (i + 1) _ (by omega) hd
theorem numS_range (s : ByteArray) (a : Nat) : (0 ≤ (numS s a).1 ∧ (numS s a).1 < 18446744073709551616) ∧ ((numS s a).2.2 = 0 → a < (numS s a).2.1 ∧ (numS s a).2.1 ≤ s.size) ∧ ((numS s a).2.2 ≠ 0 → (numS s a).1 = 0 ∧ (numS s a).2.1 = a) ∧ ((numS s a).2.2 = 0 ∨ (numS s a).2.2 = 4 ∨ (numS s a).2.2 = 5) :=
  numF_range s a 10 0 0 (by omega) ⟨by omega, pw7_pos 0⟩
theorem uint_rd (s : ByteArray) (a : Nat) (e : Int) (g : Nat) (w : World) (hs : s.size ≤ 140737488355232) (ha : a ≤ 140737488355232) (h : holdsC w g 101 (rdC s a e)) :
    Calls Try.prog 89 #[.pointer (some ⟨g, 0, none⟩)] w fun en w' => en = .returned (.int .u64 (rU s a e).1) ∧ holdsC w' g 101 (rdC s (rU s a e).2.1 (rU s a e).2.2) ∧ But g w w' := by
  by_cases he : e = 0
  · subst he
    have hr : rU s a 0 = numS s a := if_pos rfl
    rw [hr]
    exact uint_ok s a g w hs ha h
  · have hr : rU s a e = (0, a, e) := if_neg he
    have he' : (e == 0) = false := by simpa using he
    rw [hr]
    go_enter Try.func89, Try.ntmps89
    go_wp2_with fail
    refine (right_any s a e g w h).mono ?_; rintro e w' ⟨rfl, rfl⟩
    go_wp2
    go_ret
    exact ⟨rfl, h, But.refl g _⟩
/-- a number with a sign, from one without -/
def unz (u : Int) : Int := if u % 2 = 1 then -(u / 2) - 1 else u / 2
theorem and1 (u : Int) (h0 : 0 ≤ u) (h1 : u < 18446744073709551616) : Go.bits .and .u64 u 1 = u % 2 := by
  rw [u64_and u 1 h0 h1 (by omega) (by omega)]
  have e : ((1 : Int).toNat) = 2 ^ 1 - 1 := by decide
  rw [e, Nat.and_two_pow_sub_one_eq_mod]
  omega
theorem rU_range (s : ByteArray) (a : Nat) (e : Int) : 0 ≤ (rU s a e).1 ∧ (rU s a e).1 < 18446744073709551616 := by
  unfold rU
  split
  · exact (numS_range s a).1
  · exact ⟨by show (0 : Int) ≤ 0; omega, by show (0 : Int) < _; omega⟩
theorem noti64 (x : Nat) (h : x < 9223372036854775808) : Go.bits .xor .i64 (-1) (x : Int) = -(x : Int) - 1 := by
  show IntKind.i64.wrap ((BitVec.ofInt 64 (-1) ^^^ BitVec.ofInt 64 (x : Int)).toNat : Int) = _
  rw [BitVec.toNat_xor, show (BitVec.ofInt 64 (-1)).toNat = 18446744073709551615 by decide, BitVec.ofInt_natCast, BitVec.toNat_ofNat, Nat.mod_eq_of_lt (by omega), xorMax x (by omega), IntKind.wrap_i64]
  omega
theorem noti64' (u : Int) (h0 : 0 ≤ u) (h1 : u < 18446744073709551616) : Go.bits .xor .i64 (-1) (u / 2) = -(u / 2) - 1 := by
  obtain ⟨x, hx⟩ : ∃ x : Nat, u / 2 = x := ⟨(u / 2).toNat, by omega⟩
  rw [hx]
  exact noti64 x (by omega)
set_option maxHeartbeats 1000000 in
theorem int_rd (s : ByteArray) (a : Nat) (e : Int) (g : Nat) (w : World) (hs : s.size ≤ 140737488355232) (ha : a ≤ 140737488355232) (h : holdsC w g 101 (rdC s a e)) :
    Calls Try.prog 63 #[.pointer (some ⟨g, 0, none⟩)] w fun en w' => en = .returned (.int .i64 (unz (rU s a e).1)) ∧ holdsC w' g 101 (rdC s (rU s a e).2.1 (rU s a e).2.2) ∧ But g w w' := by
  have HU := Lib.hid (uint_rd s a e g w hs ha h)
  obtain ⟨u0, u1⟩ := rU_range s a e
  generalize rU s a e = R at *
  obtain ⟨u, R2⟩ := R
  have a1 := and1 u u0 u1
  have HZ : Hid (unz u = if u % 2 = 1 then -(u / 2) - 1 else u / 2) := rfl
  go_enter Try.func63, Try.ntmps63
  go_wp2_with fail
  refine HU.out.mono ?_; rintro e w' ⟨rfl, h', hB⟩
  by_cases hp : u % 2 = 1
  · have hb : (u % 2 == 1) = true := by simpa using hp
    go_wp2
    go_ret
    exact ⟨by rw [HZ.out, if_pos hp, ← noti64' u u0 u1]; rfl, h', hB⟩
  · have hb : (u % 2 == 1) = false := by simpa using hp
    go_wp2
    go_ret
    exact ⟨by rw [HZ.out, if_neg hp]; rfl, h', hB⟩
def rC (s : ByteArray) (a : Nat) (e most : Int) : Int × Nat × Int := if (rU s a e).2.2 = 0 then (if most < (rU s a e).1 then (0, (rU s a e).2.1, 3) else rU s a e) else (0, (rU s a e).2.1, (rU s a e).2.2)
set_option maxHeartbeats 1000000 in
theorem count_rd (s : ByteArray) (a : Nat) (e most : Int) (g : Nat) (w : World) (hs : s.size ≤ 140737488355232) (ha : a ≤ 140737488355232) (hm : 0 ≤ most ∧ most ≤ 1000) (h : holdsC w g 101 (rdC s a e)) :
    Calls Try.prog 62 #[.pointer (some ⟨g, 0, none⟩), .int .i64 most] w fun en w' => en = .returned (.int .i64 (rC s a e most).1) ∧ holdsC w' g 101 (rdC s (rC s a e most).2.1 (rC s a e most).2.2) ∧ But g w w' := by
  have HU := Lib.hid (uint_rd s a e g w hs ha h)
  obtain ⟨u0, u1⟩ := rU_range s a e
  have HZ : Hid (rC s a e most = if (rU s a e).2.2 = 0 then (if most < (rU s a e).1 then (0, (rU s a e).2.1, 3) else rU s a e) else (0, (rU s a e).2.1, (rU s a e).2.2)) := rfl
  generalize rU s a e = R at *
  obtain ⟨u, b, d⟩ := R
  have m1 : IntKind.u64.wrap most = most := wu (by omega) (by omega)
  have m2 : max most 0 = most := by omega
  go_enter Try.func62, Try.ntmps62
  go_wp2_with fail
  refine HU.out.mono ?_; rintro en w1 ⟨rfl, h', hB⟩
  go_wp2_with fail
  refine (right_any s b d g w1 h').mono ?_; rintro en w' ⟨rfl, rfl⟩
  by_cases hd : d = 0
  · have hd' : (d == 0) = true := by simpa using hd
    by_cases hu : most < u
    · have hu' : decide (most < u) = true := decide_eq_true hu
      have c2 := h'.cell 2 (.int .i64 d) rfl
      have f2 := holdsC_free h' 2
      have HR : Hid (rC s a e most = (0, b, 3)) := by show _ = _; rw [HZ.out, if_pos hd, if_pos hu]
      go_wp2
      go_ret
      exact ⟨by rw [HR.out]; rfl, by rw [HR.out]; exact holdsC_set h' 2 _, hB.cell 2 _⟩
    · have hu' : decide (most < u) = false := decide_eq_false hu
      have HR : Hid (rC s a e most = (u, b, d)) := by show _ = _; rw [HZ.out, if_pos hd, if_neg hu]
      go_wp2
      go_ret
      exact ⟨by rw [HR.out]; rfl, by rw [HR.out]; exact h', hB⟩
  · have hd' : (d == 0) = false := by simpa using hd
    have HR : Hid (rC s a e most = (0, b, d)) := by show _ = _; rw [HZ.out, if_neg hd]
    go_wp2
    go_ret
    exact ⟨by rw [HR.out]; rfl, by rw [HR.out]; exact h', hB⟩
set_option maxHeartbeats 1000000 in
theorem end_rd (s : ByteArray) (a : Nat) (e : Int) (g : Nat) (w : World) (h : holdsC w g 101 (rdC s a e)) :
    Calls Try.prog 64 #[.pointer (some ⟨g, 0, none⟩)] w fun en w' => en = .returned (.int .i64 (if e = 0 then (if a < s.size then 6 else 0) else e)) ∧ Drawn0 w w' := by
  go_enter Try.func64, Try.ntmps64
  go_wp2_with fail
  refine (err_any s a e g w h).mono ?_; rintro en w' ⟨rfl, rfl⟩
  by_cases he : e = 0
  · have he' : (e == 0) = true := by simpa using he
    have c0 := h.cell 0 (.string s) rfl
    have c1 := h.cell 1 (.int .i64 (a : Int)) rfl
    by_cases hz : a < s.size
    · have hz' : decide ((a : Int) < (s.size : Int)) = true := decide_eq_true (by omega)
      go_wp2
      go_quiet (fail)
      go_wp2
      go_ret
      exact ⟨rfl, ⟨_, rfl⟩⟩
    · have hz' : decide ((a : Int) < (s.size : Int)) = false := decide_eq_false (by omega)
      go_wp2
      go_quiet (fail)
      go_wp2
      go_ret
      exact ⟨rfl, ⟨_, rfl⟩⟩
  · have he' : (e == 0) = false := by simpa using he
    go_wp2
    go_ret
    exact ⟨rfl, ⟨0, rfl⟩⟩
def rT (s : ByteArray) (a : Nat) (e most : Int) : ByteArray × Nat × Int := if (rC s a e most).2.2 = 0 then (if (s.size : Int) - ((rC s a e most).2.1 : Int) < (rC s a e most).1 then (⟨#[]⟩, (rC s a e most).2.1, 5) else (s.extract (rC s a e most).2.1 ((rC s a e most).2.1 + (rC s a e most).1.toNat), (rC s a e most).2.1 + (rC s a e most).1.toNat, 0)) else (⟨#[]⟩, (rC s a e most).2.1, (rC s a e most).2.2)
theorem rC_range (s : ByteArray) (a : Nat) (e most : Int) (h : (rC s a e most).2.2 = 0) : e = 0 ∧ 0 ≤ (rC s a e most).1 ∧ (rC s a e most).1 ≤ most ∧ (rC s a e most).2.1 ≤ s.size ∧ rC s a e most = numS s a := by
  obtain ⟨h1, h2, h3, h4⟩ := numS_range s a
  unfold rC at h ⊢
  by_cases he : e = 0
  · have hr : rU s a e = numS s a := by unfold rU; rw [if_pos he]
    rw [hr] at h ⊢
    by_cases h0 : (numS s a).2.2 = 0
    · rw [if_pos h0] at h ⊢
      by_cases hm : most < (numS s a).1
      · rw [if_pos hm] at h; exact absurd h (show ¬ (3 : Int) = 0 by omega)
      · rw [if_neg hm]
        exact ⟨he, h1.1, by omega, (h2 h0).2, rfl⟩
    · rw [if_neg h0] at h; exact absurd h h0
  · have hr : rU s a e = (0, a, e) := by unfold rU; rw [if_neg he]
    rw [hr, if_neg he] at h
    exact absurd h he
set_option maxHeartbeats 2000000 in
theorem text_rd (s : ByteArray) (a : Nat) (e most : Int) (g : Nat) (w : World) (hs : s.size ≤ 140737488355232) (ha : a ≤ 140737488355232) (hm : 0 ≤ most ∧ most ≤ 1000) (h : holdsC w g 101 (rdC s a e)) :
    Calls Try.prog 61 #[.pointer (some ⟨g, 0, none⟩), .int .i64 most] w fun en w' => en = .returned (.string (rT s a e most).1) ∧ holdsC w' g 101 (rdC s (rT s a e most).2.1 (rT s a e most).2.2) ∧ But g w w' := by
  have HU := Lib.hid (count_rd s a e most g w hs ha hm h)
  have hrg := rC_range s a e most
  have HZ : Hid (rT s a e most = if (rC s a e most).2.2 = 0 then (if (s.size : Int) - ((rC s a e most).2.1 : Int) < (rC s a e most).1 then (⟨#[]⟩, (rC s a e most).2.1, 5) else (s.extract (rC s a e most).2.1 ((rC s a e most).2.1 + (rC s a e most).1.toNat), (rC s a e most).2.1 + (rC s a e most).1.toNat, 0)) else (⟨#[]⟩, (rC s a e most).2.1, (rC s a e most).2.2)) := rfl
  generalize rC s a e most = R at *
  obtain ⟨n, b, d⟩ := R
  simp only at hrg HZ HU
  go_enter Try.func61, Try.ntmps61
  go_wp2_with fail
  refine HU.out.mono ?_; rintro en w1 ⟨rfl, h', hB⟩
  go_wp2_with fail
  refine (right_any s b d g w1 h').mono ?_; rintro en w' ⟨rfl, rfl⟩
  by_cases hd : d = 0
  · obtain ⟨_, n0, n1, hb, _⟩ := hrg hd
    clear hrg
    have hd' : (d == 0) = true := by simpa using hd
    have c0 := h'.cell 0 (.string s) rfl
    have c1 := h'.cell 1 (.int .i64 (b : Int)) rfl
    by_cases hu : (s.size : Int) - (b : Int) < n
    · have hu' : decide ((s.size : Int) - (b : Int) < n) = true := decide_eq_true hu
      have HR : Hid (rT s a e most = (⟨#[]⟩, b, 5)) := by show _ = _; rw [HZ.out, if_pos hd, if_pos hu]
      clear HZ
      go_wp2
      go_quiet (fail)
      have h2 : holdsC (w'.drewN nq) g 101 (rdC s b d) := h'
      have c2 := h2.cell 2 (.int .i64 d) rfl
      have f2 := holdsC_free h2 2
      go_wp2
      go_ret
      exact ⟨by rw [HR.out]; rfl, by rw [HR.out]; exact holdsC_set h2 2 _, (hB.drewN _).cell 2 _⟩
    · have hu' : decide ((s.size : Int) - (b : Int) < n) = false := decide_eq_false hu
      obtain ⟨k, rfl⟩ : ∃ k : Nat, n = k := ⟨n.toNat, by omega⟩
      have HR : Hid (rT s a e most = (s.extract b (b + k), b + k, 0)) := by show _ = _; rw [HZ.out, if_pos hd, if_neg hu]; rfl
      clear HZ
      go_wp2
      go_quiet (fail)
      have h2 : holdsC (w'.drewN nq) g 101 (rdC s b d) := h'
      have hB2 := hB.drewN nq
      have c12 := h2.cell 1 (.int .i64 (b : Int)) rfl
      have f12 := holdsC_free h2 1
      go_wp2
      have h3 : holdsC ((w'.drewN nq).setCell ⟨g, 1, none⟩ (.int .i64 ((b : Int) + (k : Int)))) g 101 (rdC s (b + k) 0) := by
        have := holdsC_set h2 1 (.int .i64 ((b : Int) + (k : Int)))
        rw [hd] at this
        exact this
      have hB3 := hB2.cell 1 (.int .i64 ((b : Int) + (k : Int)))
      have c13 := h3.cell 1 (.int .i64 (((b + k : Nat) : Int))) rfl
      have c03 := h3.cell 0 (.string s) rfl
      generalize ((w'.drewN nq).setCell ⟨g, 1, none⟩ (.int .i64 ((b : Int) + (k : Int)))) = w5 at *
      have e0 : IntKind.i64.wrap (b : Int) = (b : Int) := by rw [i64_w]; exact w64' (by omega) (by omega)
      have e2 : ((b : Int) ≤ (b : Int) + (k : Int)) = True := eq_true (by omega)
      have e3 : ((b : Int) + (k : Int) ≤ (s.size : Int)) = True := eq_true (by omega)
      have e4 : (0 ≤ (b : Int)) = True := eq_true (by omega)
      have e5 : ((b : Int) + (k : Int)).toNat = b + k := by omega
      go_quiet (fail)
      go_wp2
      go_ret
      exact ⟨by rw [HR.out]; rfl, by rw [HR.out]; exact h3, hB3.drewN _⟩
  · have hd' : (d == 0) = false := by simpa using hd
    have HR : Hid (rT s a e most = (⟨#[]⟩, b, d)) := by show _ = _; rw [HZ.out, if_neg hd]
    go_wp2
    go_ret
    exact ⟨by rw [HR.out]; rfl, by rw [HR.out]; exact h', hB⟩
end Go.Proofs.Ytlpfepcmpccbeaa.Pt
/-
  profile.Parse.
-/
namespace Go.Proofs.Ytlpfepcmpccbeaa.Pt
open Go.RowKit Go.Proofs.Ytlpfepcmpccbeaa.NM Go.Proofs.Ytlpfepcmpccbeaa.Cv Go.Proofs.Ytlpfepcmpccbeaa.Wi Go.Proofs.Ytlpfepcmpccbeaa.Nm9 Go.Proofs.Ytlpfepcmpccbeaa.Mx Go.Proofs.Ytlpfepcmpccbeaa.Pf Go.Proofs.Ytlpfepcmpccbeaa.PNum Go.Proofs.YtlpfepcmpccbeaaW.PrintWords Go.Proofs.YtlpfepcmpccbeaaW.PrintMore Go.Proofs.YtlpfepcmpccbeaaW.PrintLast
set_option linter.unusedVariables false

/-- the reader's place and error behind k numbers -/
def stR (s : ByteArray) (a : Nat) (e : Int) : Nat → Nat × Int
  | 0 => (a, e)
  | k + 1 => (rU s (stR s a e k).1 (stR s a e k).2).2
/-- number k -/
def vlR (s : ByteArray) (a : Nat) (e : Int) (k : Nat) : Int := unz (rU s (stR s a e k).1 (stR s a e k).2).1
theorem rU_at {s : ByteArray} {a : Nat} (e : Int) (h : a ≤ s.size) : (rU s a e).2.1 ≤ s.size := by
  unfold rU
  split
  · obtain ⟨_, h2, h3, _⟩ := numS_range s a
    by_cases h0 : (numS s a).2.2 = 0
    · exact (h2 h0).2
    · rw [(h3 h0).2]; exact h
  · exact h
theorem rC_at {s : ByteArray} {a : Nat} (e most : Int) (h : a ≤ s.size) : (rC s a e most).2.1 ≤ s.size := by
  have := rU_at e h
  unfold rC
  split
  · split
    · exact this
    · exact this
  · exact this
theorem rT_at {s : ByteArray} {a : Nat} (e most : Int) (h : a ≤ s.size) : (rT s a e most).2.1 ≤ s.size := by
  have h1 := rC_at e most h
  unfold rT
  split
  · rename_i h0
    have h2 := rC_range s a e most h0
    split
    · exact h1
    · show (rC s a e most).2.1 + (rC s a e most).1.toNat ≤ _
      omega
  · exact h1
theorem stR_at {s : ByteArray} {a : Nat} (e : Int) (h : a ≤ s.size) : ∀ k, (stR s a e k).1 ≤ s.size
  | 0 => h
  | k + 1 => rU_at _ (stR_at e h k)
/-- what is parsed -/
def psN (s : ByteArray) : ByteArray × Nat × Int := rT s 0 0 32
def psC (s : ByteArray) : Int × Nat × Int := rC s (psN s).2.1 (psN s).2.2 16
def psK (s : ByteArray) : Nat := (psC s).1.toNat
def psL (s : ByteArray) : List Kn := (List.range (psK s)).map fun i => ⟨vlR s (psC s).2.1 (psC s).2.2 (2 * i), vlR s (psC s).2.1 (psC s).2.2 (2 * i + 1)⟩
def psMn (s : ByteArray) (n : Nat) : Nat → Int := fun k => if k < n then vlR s (psC s).2.1 (psC s).2.2 (2 * psK s + k) else 0
def psE (s : ByteArray) : Int := if (stR s (psC s).2.1 (psC s).2.2 (2 * psK s + 9)).2 = 0 then (if (stR s (psC s).2.1 (psC s).2.2 (2 * psK s + 9)).1 < s.size then 6 else 0) else (stR s (psC s).2.1 (psC s).2.2 (2 * psK s + 9)).2
def parseC (s : ByteArray) : Int := if psE s = 0 then profCheck (psN s).1 (psL s) (psMn s 9) else psE s
def parseN (s : ByteArray) : ByteArray := if parseC s = 0 then (psN s).1 else ⟨#[]⟩
def parseL (s : ByteArray) : List Kn := if parseC s = 0 then psL s else []
def parseM (s : ByteArray) : Nat → Int := if parseC s = 0 then psMn s 9 else fun _ => 0
theorem psN_size (s : ByteArray) : (psN s).1.size ≤ s.size := by
  unfold psN rT
  split
  · split
    · show 0 ≤ _; omega
    · show (s.extract _ _).size ≤ _
      rw [ByteArray.size_extract]; omega
  · show 0 ≤ _; omega
theorem But.R {e : Nat} {w w' : World} {base g : Nat} {ok : Nat → Prop} {v : Value} {xs : List Kn} (h : But g w w') (hR : Kd.R k72 e w base ok v xs) (hg : g < base) : Kd.R k72 e w' base ok v xs :=
  Kd.R_mono (Kd.R_move (Kd.R_bound hR) (fun k hk => h.2.2 k hk.2.2.1 (by have := hk.2.1; omega))) (fun _ hk => hk.1)
theorem int_st (s : ByteArray) (a : Nat) (e : Int) (k : Nat) (g : Nat) (w : World) (hs : s.size ≤ 140737488355232) (ha : a ≤ s.size) (h : holdsC w g 101 (rdC s (stR s a e k).1 (stR s a e k).2)) :
    Calls Try.prog 63 #[.pointer (some ⟨g, 0, none⟩)] w fun en w' => en = .returned (.int .i64 (vlR s a e k)) ∧ holdsC w' g 101 (rdC s (stR s a e (k + 1)).1 (stR s a e (k + 1)).2) ∧ But g w w' :=
  int_rd s _ _ g w hs (by have := stR_at e ha k; omega) h
def knR (s : ByteArray) (a : Nat) (e : Int) (n : Nat) : List Kn := (List.range n).map fun i => ⟨vlR s a e (2 * i), vlR s a e (2 * i + 1)⟩
theorem knR_succ (s : ByteArray) (a : Nat) (e : Int) (n : Nat) : knR s a e n ++ [⟨vlR s a e (2 * n), vlR s a e (2 * n + 1)⟩] = knR s a e (n + 1) := by
  unfold knR
  rw [List.range_succ, List.map_append]
  rfl
theorem knR_len (s : ByteArray) (a : Nat) (e : Int) (n : Nat) : (knR s a e n).length = n := by unfold knR; simp
theorem profC_set1 (nm : ByteArray) (s v : Value) (m : Nat → Int) : (profC nm s m).setIfInBounds 1 v = profC nm v m := rfl
theorem profC_setM (nm : ByteArray) (s : Value) (m : Nat → Int) (i : Nat) (v : Int) : (profC nm s m).setIfInBounds (2 + i) (.int .i64 v) = profC nm s (upd m i v) := by
  unfold profC
  rw [Array.setIfInBounds_append, if_neg (by simp), show 2 + i - (#[Value.string nm, s] : Array Value).size = i by simp, arrN_set]
theorem psM_step (s : ByteArray) (i : Nat) : upd (psMn s i) i (vlR s (psC s).2.1 (psC s).2.2 (2 * psK s + i)) = psMn s (i + 1) := by
  funext k
  unfold upd psMn
  by_cases h : k = i
  · subst h; simp
  · rw [if_neg h]
    by_cases h2 : k < i
    · rw [if_pos h2, if_pos (by omega)]
    · rw [if_neg h2, if_neg (by omega)]
theorem psK_le (s : ByteArray) : psK s ≤ 16 := by
  unfold psK psC
  by_cases h : (rC s (psN s).2.1 (psN s).2.2 16).2.2 = 0
  · have := rC_range s (psN s).2.1 (psN s).2.2 16 h
    omega
  · have : (rC s (psN s).2.1 (psN s).2.2 16).1 = 0 := by
      unfold rC at h ⊢
      split
      · rename_i h0
        rw [if_pos h0] at h
        split
        · rfl
        · rename_i h1
          rw [if_neg h1] at h
          exact absurd h0 h
      · rfl
    omega
theorem psC_eq (s : ByteArray) : (psC s).1 = (psK s : Int) := by
  unfold psK
  by_cases h : (psC s).2.2 = 0
  · have := rC_range s (psN s).2.1 (psN s).2.2 16 h
    unfold psC
    omega
  · have : (psC s).1 = 0 := by
      unfold psC rC at h ⊢
      split
      · rename_i h0
        rw [if_pos h0] at h
        split
        · rfl
        · rename_i h1
          rw [if_neg h1] at h
          exact absurd h0 h
      · rfl
    omega
set_option maxRecDepth 20000 in
set_option maxHeartbeats 2000000 in
theorem pParse_any (s : ByteArray) (w : World) (hs : s.size ≤ 140737488355232) :
    Calls Try.prog 29 #[.string s] w fun e w' => ∃ A2 c2, e = .returned (.tuple #[.agg (profC (parseN s) (.slice A2 (parseL s).length c2) (parseM s)), .int .i64 (parseC s)]) ∧ Kd.C k72 w' A2 (parseL s).length (parseL s) ∧ (parseL s).length ≤ c2 ∧ Below w.heap.size w w' := by
  have HS : Hid (s.size ≤ 140737488355232) := hs
  have h1at : (psN s).2.1 ≤ s.size := rT_at 0 32 (by omega)
  have h2at : (psC s).2.1 ≤ s.size := rC_at _ 16 h1at
  have hkle := psK_le s
  have hceq := psC_eq s
  go_enter Try.func29, Try.ntmps29
  go_upto_region 1 with fail
  have h0 : holdsC (w.alloc (.cells #[.string ⟨#[]⟩, .slice none 0 0, .int .i64 0, .int .i64 0, .int .i64 0, .int .i64 0, .int .i64 0, .int .i64 0, .int .i64 0, .int .i64 0, .int .i64 0] 25)) w.heap.size 25 #[.string ⟨#[]⟩, .slice none 0 0, .int .i64 0, .int .i64 0, .int .i64 0, .int .i64 0, .int .i64 0, .int .i64 0, .int .i64 0, .int .i64 0, .int .i64 0] := by
    have h : holdsC (w.alloc (.cells #[.string ⟨#[]⟩, .slice none 0 0, .int .i64 0, .int .i64 0, .int .i64 0, .int .i64 0, .int .i64 0, .int .i64 0, .int .i64 0, .int .i64 0, .int .i64 0] 25)) w.heap.size 25 #[.string ⟨#[]⟩, .slice none 0 0, .int .i64 0, .int .i64 0, .int .i64 0, .int .i64 0, .int .i64 0, .int .i64 0, .int .i64 0, .int .i64 0, .int .i64 0] := heap_alloc_new _ _
    have h := h
    exact h
  have hb : Below w.heap.size w (w.alloc (.cells #[.string ⟨#[]⟩, .slice none 0 0, .int .i64 0, .int .i64 0, .int .i64 0, .int .i64 0, .int .i64 0, .int .i64 0, .int .i64 0, .int .i64 0, .int .i64 0] 25)) := ((Below.refl _ _).alloc (Nat.le_refl _) _)
  generalize (w.alloc (.cells #[.string ⟨#[]⟩, .slice none 0 0, .int .i64 0, .int .i64 0, .int .i64 0, .int .i64 0, .int .i64 0, .int .i64 0, .int .i64 0, .int .i64 0, .int .i64 0] 25)) = wc at *
  generalize hB : w.heap.size = B at *
  have HB := Lib.hid hB
  clear hB
  go_wp2_with fail
  refine (wire_New.calls s _ _ _ _ wc wc (Below.refl _ _) rfl).mono ?_; rintro e w1 ⟨g, rfl, ⟨hg, hgB⟩, b1, _⟩
  have hg : holdsC w1 g 101 (rdC s 0 0) := hg
  have g0 := h0.kept b1 h0.lt
  have gb := hb.trans (b1.mono (Nat.le_trans (Nat.le_of_eq HB.out.symm) hb.size))
  have hBg : B < g := Nat.lt_of_lt_of_le h0.lt hgB
  clear h0 hb b1 hgB
  go_wp2_with fail
  refine (text_rd s 0 0 32 g w1 hs (by omega) (by omega) hg).mono ?_; rintro e w2 ⟨rfl, hg2, hB2⟩
  have k0 := hB2.kept g0 (by omega)
  have kb := hB2.below gb (by omega) (by rw [← HB.out]; exact gb.size)
  clear hg g0 gb hB2
  have hq : g < w2.heap.size := hg2.lt
  have hg3 := hg2
  replace hg3 : holdsC w2 g 101 (rdC s (psN s).2.1 (psN s).2.2) := hg2
  clear hg2
  have H3 : holdsC (w2.alloc (.cells #[.string ⟨#[]⟩, .slice none 0 0, .int .i64 0, .int .i64 0, .int .i64 0, .int .i64 0, .int .i64 0, .int .i64 0, .int .i64 0, .int .i64 0, .int .i64 0] 25)) w2.heap.size 25 #[.string ⟨#[]⟩, .slice none 0 0, .int .i64 0, .int .i64 0, .int .i64 0, .int .i64 0, .int .i64 0, .int .i64 0, .int .i64 0, .int .i64 0, .int .i64 0] := heap_alloc_new _ _
  have a0 := (k0.alloc (.cells #[.string ⟨#[]⟩, .slice none 0 0, .int .i64 0, .int .i64 0, .int .i64 0, .int .i64 0, .int .i64 0, .int .i64 0, .int .i64 0, .int .i64 0, .int .i64 0] 25)).setRowOther (g' := w2.heap.size) (by omega) (profC (psN s).1 (.slice none 0 0) (psMn s 0))
  have ag := (hg3.alloc (.cells #[.string ⟨#[]⟩, .slice none 0 0, .int .i64 0, .int .i64 0, .int .i64 0, .int .i64 0, .int .i64 0, .int .i64 0, .int .i64 0, .int .i64 0, .int .i64 0] 25)).setRowOther (g' := w2.heap.size) (by omega) (profC (psN s).1 (.slice none 0 0) (psMn s 0))
  have ap := holdsC_row H3 (profC (psN s).1 (.slice none 0 0) (psMn s 0))
  have ab := below_setRow (kb.alloc (by rw [← HB.out]; exact kb.size) (.cells #[.string ⟨#[]⟩, .slice none 0 0, .int .i64 0, .int .i64 0, .int .i64 0, .int .i64 0, .int .i64 0, .int .i64 0, .int .i64 0, .int .i64 0, .int .i64 0] 25)) (by rw [← HB.out]; exact kb.size) (profC (psN s).1 (.slice none 0 0) (psMn s 0))
  go_upto_region 3 with (first | (refine wpList_build_as rfl 25 _ rfl (profC (psN s).1 (.slice none 0 0) (psMn s 0)) (by kernel_rfl) ?_) | (refine wpList_store_row rfl 25 (.tmp 5) (.tmp 15) rfl _ (profC (psN s).1 (.slice none 0 0) (psMn s 0)) rfl rfl 25 _ H3 (profC_info _ _ _) (by rw [profC_size]; rfl) (profC_one _ _ _ rfl) ?_))
  have hsz : ((w2.alloc (.cells #[.string ⟨#[]⟩, .slice none 0 0, .int .i64 0, .int .i64 0, .int .i64 0, .int .i64 0, .int .i64 0, .int .i64 0, .int .i64 0, .int .i64 0, .int .i64 0] 25)).setRow w2.heap.size (profC (psN s).1 (.slice none 0 0) (psMn s 0))).heap.size = w2.heap.size + 1 := by simp [World.setRow]
  clear H3 k0 hg3 kb
  generalize (w2.alloc (.cells #[.string ⟨#[]⟩, .slice none 0 0, .int .i64 0, .int .i64 0, .int .i64 0, .int .i64 0, .int .i64 0, .int .i64 0, .int .i64 0, .int .i64 0, .int .i64 0] 25)).setRow w2.heap.size (profC (psN s).1 (.slice none 0 0) (psMn s 0)) = w3 at *
  generalize w2.heap.size = p at *
  go_wp2_with fail
  have hceq' : (rC s (psN s).2.1 (psN s).2.2 16).1 = (psK s : Int) := hceq
  have HCT := count_rd s (psN s).2.1 (psN s).2.2 16 g w3 hs (by omega) (by omega) ag
  rw [hceq'] at HCT
  clear hceq hceq'
  refine HCT.mono ?_; rintro e w4 ⟨rfl, hg4, hB4⟩
  have m0 := hB4.kept a0 (by omega)
  have mp := hB4.kept ap (by omega)
  have mb := hB4.below ab (by omega) (by rw [← HB.out]; exact ab.size)
  replace hg4 : holdsC w4 g 101 (rdC s (stR s (psC s).2.1 (psC s).2.2 (2 * 0)).1 (stR s (psC s).2.1 (psC s).2.2 (2 * 0)).2) := hg4
  have hpz : p + 1 ≤ w4.heap.size := by have := hB4.2.1; omega
  clear HCT a0 ag ap ab hB4 hsz
  go_wp2_with fail
  go_loopw [6, 7, 18] (fun _ _ v18 wr => ∃ (i : Nat) (v : Value), i ≤ psK s ∧ v18 = .int .i64 i ∧ holdsC wr g 101 (rdC s (stR s (psC s).2.1 (psC s).2.2 (2 * i)).1 (stR s (psC s).2.1 (psC s).2.2 (2 * i)).2) ∧ holdsC wr p 25 (profC (psN s).1 v (psMn s 0)) ∧ holdsC wr B 25 #[.string ⟨#[]⟩, .slice none 0 0, .int .i64 0, .int .i64 0, .int .i64 0, .int .i64 0, .int .i64 0, .int .i64 0, .int .i64 0, .int .i64 0, .int .i64 0] ∧ Hid (Kd.R k72 72 wr (p + 1) (fun _ => True) v (knR s (psC s).2.1 (psC s).2.2 i)) ∧ Below B w wr ∧ p + 1 ≤ wr.heap.size) (fun _ _ v _ => psK s - (intOf v).toNat)
  case atStart => exact ⟨0, _, by omega, rfl, hg4, mp, m0, Kd.R_nil _ _ _ _ _, mb, hpz⟩
  case round =>
    obtain ⟨i, v, hi, rfl, xg, xp, x0, HXR, xb, xz⟩ := hrel
    clear hg4 mp m0 mb hpz
    obtain ⟨w20, hw20⟩ : ∃ w20 : World, w20 = wr := ⟨_, rfl⟩
    subst hw20
    by_cases hil : i < psK s
    · have hd : decide ((i : Int) < (psK s : Int)) = true := decide_eq_true (by omega)
      go_wp2_with fail
      refine (int_st s (psC s).2.1 (psC s).2.2 (2 * i) g w20 hs h2at xg).mono ?_; rintro e w21 ⟨rfl, yg, hBx⟩
      have yp := hBx.kept xp (by omega)
      have y0 := hBx.kept x0 (by omega)
      have yb := hBx.below xb (by omega) (by rw [← HB.out]; exact xb.size)
      have yz : p + 1 ≤ w21.heap.size := by have := hBx.2.1; omega
      have HYR := Lib.hid (hBx.R HXR.out (by omega))
      clear xg xp x0 xb xz HXR hBx
      go_wp2_with fail
      refine (int_st s (psC s).2.1 (psC s).2.2 (2 * i + 1) g w21 hs h2at yg).mono ?_; rintro e w22 ⟨rfl, zg, hBx⟩
      have zp := hBx.kept yp (by omega)
      have z0 := hBx.kept y0 (by omega)
      have zb := hBx.below yb (by omega) (by rw [← HB.out]; exact yb.size)
      have zz : p + 1 ≤ w22.heap.size := by have := hBx.2.1; omega
      have HZR := Lib.hid (hBx.R HYR.out (by omega))
      clear yg yp y0 yb yz HYR hBx
      have hkn := knR_succ s (psC s).2.1 (psC s).2.2 i
      have hlen := knR_len s (psC s).2.1 (psC s).2.2 i
      replace zg : holdsC w22 g 101 (rdC s (stR s (psC s).2.1 (psC s).2.2 (2 * (i + 1))).1 (stR s (psC s).2.1 (psC s).2.2 (2 * (i + 1))).2) := zg
      generalize vlR s (psC s).2.1 (psC s).2.2 (2 * i) = vx at *
      generalize vlR s (psC s).2.1 (psC s).2.2 (2 * i + 1) = vy at *
      have HKN := Lib.hid hkn
      clear hkn
      generalize knR s (psC s).2.1 (psC s).2.2 i = li at *
      have c1 := zp.cell 1 v rfl
      go_wp2_with (first | ((with_reducible refine gate_builtin (b := .append) (xs := #[.tmp 25, .tmp 29]) rfl ?_); at_builtin; refine Kd.R_append k72 (w0 := w22) (p + 1) rfl (.tmp 25) (.tmp 29) 22 72 (.agg #[.int .i64 0, .int .i64 0]) 16 rfl Try.underlying22 info72 rfl (by decide) (by omega) v li ⟨vx, vy⟩ [.int .i64 vx, .int .i64 vy] (fun _ => True) (fun _ => False) rfl rfl ?aP (fun _ hk => hk.elim) ?aF ?aO ?aB ?aS ?aL ?_; (case aP => exact k72_mkM _ _ _ ⟨vx, vy⟩); (case aB => exact Below.refl _ _); (case aF => exact (fun _ _ => trivial)); (case aO => exact HZR.out); (case aS => exact zz); (case aL => omega); intro v1 w23 ho hb4 hgr hat; obtain ⟨A1, c1_, hv1⟩ := Kd.R_slice ho; obtain ⟨n1, hn1⟩ : ∃ n, n = (li ++ [(⟨vx, vy⟩ : Kn)]).length := ⟨_, rfl⟩; rw [← hn1] at hv1; subst hv1; clear hn1; have ug := zg.kept hb4 (by omega); have up := zp.kept hb4 (by omega); have u0 := z0.kept hb4 (by omega); have ub := zb.trans (hb4.mono (by omega)); have uz : p + 1 ≤ w23.heap.size := Nat.le_trans zz hb4.size; have HUR := Lib.hid ho; have cc := up.cell 1 v rfl; have ff := holdsC_free up 1; clear hgr hat ho hb4))
      have vp := holdsC_set up 1 (.slice A1 n1 c1_)
      rw [profC_set1] at vp
      have vg : holdsC (w23.setCell ⟨p, 1, none⟩ (.slice A1 n1 c1_)) g 101 (rdC s (stR s (psC s).2.1 (psC s).2.2 (2 * (i + 1))).1 (stR s (psC s).2.1 (psC s).2.2 (2 * (i + 1))).2) := by
        unfold holdsC at *
        rw [Below.heap_setCell w23 ⟨p, 1, none⟩ (.slice A1 n1 c1_) g (by show g ≠ p; omega)]; exact ug
      have v0 : holdsC (w23.setCell ⟨p, 1, none⟩ (.slice A1 n1 c1_)) B 25 #[.string ⟨#[]⟩, .slice none 0 0, .int .i64 0, .int .i64 0, .int .i64 0, .int .i64 0, .int .i64 0, .int .i64 0, .int .i64 0, .int .i64 0, .int .i64 0] := by
        unfold holdsC at *
        rw [Below.heap_setCell w23 ⟨p, 1, none⟩ (.slice A1 n1 c1_) B (by show B ≠ p; omega)]; exact u0
      have HVR := Lib.hid (Kd.R_set HUR.out (show w23.heap[p]? = _ from up) (by decide) 1 (.slice A1 n1 c1_))
      rw [HKN.out] at HVR
      have vb : Below B w (w23.setCell ⟨p, 1, none⟩ (.slice A1 n1 c1_)) := ub.setCell (by show B ≤ p; omega) (.slice A1 n1 c1_)
      have vz : p + 1 ≤ (w23.setCell ⟨p, 1, none⟩ (.slice A1 n1 c1_)).heap.size := by simpa [World.setCell] using uz
      go_roundw
      case rel => exact ⟨i + 1, (.slice A1 n1 c1_), by omega, by go_num, vg, vp, v0, HVR, vb, vz⟩
      case measure => simp [intOf]; omega
    · have hd : decide ((i : Int) < (psK s : Int)) = false := decide_eq_false (by omega)
      obtain rfl : i = psK s := by omega
      obtain ⟨A1, c1_, hv⟩ := Kd.R_slice HXR.out
      subst hv
      have HXL : Hid (Kd.R k72 72 w20 (p + 1) (fun _ => True) (.slice A1 (psL s).length c1_) (psL s)) := HXR
      clear HXR
      replace xp : holdsC w20 p 25 (profC (psN s).1 (.slice A1 (psL s).length c1_) (psMn s 0)) := xp
      replace xg : holdsC w20 g 101 (rdC s (stR s (psC s).2.1 (psC s).2.2 (2 * psK s + 0)).1 (stR s (psC s).2.1 (psC s).2.2 (2 * psK s + 0)).2) := xg
      go_wp2_with fail
      go_loopw [8, 33] (fun _ v33 wr => ∃ j : Nat, j ≤ 9 ∧ v33 = .int .i64 j ∧ holdsC wr g 101 (rdC s (stR s (psC s).2.1 (psC s).2.2 (2 * psK s + j)).1 (stR s (psC s).2.1 (psC s).2.2 (2 * psK s + j)).2) ∧ holdsC wr p 25 (profC (psN s).1 (.slice A1 (psL s).length c1_) (psMn s j)) ∧ holdsC wr B 25 #[.string ⟨#[]⟩, .slice none 0 0, .int .i64 0, .int .i64 0, .int .i64 0, .int .i64 0, .int .i64 0, .int .i64 0, .int .i64 0, .int .i64 0, .int .i64 0] ∧ Hid (Kd.R k72 72 wr (p + 1) (fun _ => True) (.slice A1 (psL s).length c1_) (psL s)) ∧ Below B w wr ∧ p + 1 ≤ wr.heap.size) (fun _ v _ => 9 - (intOf v).toNat)
      case atStart => exact ⟨0, by omega, rfl, xg, xp, x0, HXL, xb, xz⟩
      case round =>
        obtain ⟨j, hj, rfl, yg, yp, y0, HYR, yb, yz⟩ := hrel
        clear xg xp x0 HXL xb xz hd
        obtain ⟨w30, hw30⟩ : ∃ w30 : World, w30 = wr := ⟨_, rfl⟩
        subst hw30
        by_cases hj9 : j < 9
        · have hd : decide ((j : Int) < 9) = true := decide_eq_true (by omega)
          go_wp2_with fail
          refine (int_st s (psC s).2.1 (psC s).2.2 (2 * psK s + j) g w30 hs h2at yg).mono ?_; rintro e w31 ⟨rfl, zg, hBx⟩
          have zp := hBx.kept yp (by omega)
          have z0 := hBx.kept y0 (by omega)
          have zb := hBx.below yb (by omega) (by rw [← HB.out]; exact yb.size)
          have zz : p + 1 ≤ w31.heap.size := by have := hBx.2.1; omega
          have HZR := Lib.hid (hBx.R HYR.out (by omega))
          clear yg yp y0 yb yz HYR hBx
          have cc := zp.cell (2 + j) _ (profC_m _ _ _ j hj9)
          have ff := holdsC_free zp (2 + j)
          have p1 : (0 ≤ (j : Int)) = True := eq_true (by omega)
          have p2 : ((j : Int) < 9) = True := eq_true (by omega)
          have vp := holdsC_set zp (2 + j) (.int .i64 (vlR s (psC s).2.1 (psC s).2.2 (2 * psK s + j)))
          rw [profC_setM, psM_step] at vp
          generalize vlR s (psC s).2.1 (psC s).2.2 (2 * psK s + j) = vj at *
          have vg : holdsC (w31.setCell ⟨p, 2 + j, none⟩ (.int .i64 vj)) g 101 (rdC s (stR s (psC s).2.1 (psC s).2.2 (2 * psK s + (j + 1))).1 (stR s (psC s).2.1 (psC s).2.2 (2 * psK s + (j + 1))).2) := by
            unfold holdsC at *
            rw [Below.heap_setCell w31 ⟨p, 2 + j, none⟩ _ g (by show g ≠ p; omega)]; exact zg
          have v0 : holdsC (w31.setCell ⟨p, 2 + j, none⟩ (.int .i64 vj)) B 25 #[.string ⟨#[]⟩, .slice none 0 0, .int .i64 0, .int .i64 0, .int .i64 0, .int .i64 0, .int .i64 0, .int .i64 0, .int .i64 0, .int .i64 0, .int .i64 0] := by
            unfold holdsC at *
            rw [Below.heap_setCell w31 ⟨p, 2 + j, none⟩ _ B (by show B ≠ p; omega)]; exact z0
          have HVR := Lib.hid (Kd.R_set HZR.out (show w31.heap[p]? = _ from zp) (by decide) (2 + j) (.int .i64 vj))
          have vb : Below B w (w31.setCell ⟨p, 2 + j, none⟩ (.int .i64 vj)) := zb.setCell (by show B ≤ p; omega) _
          have vz : p + 1 ≤ (w31.setCell ⟨p, 2 + j, none⟩ (.int .i64 vj)).heap.size := by simpa [World.setCell] using zz
          go_wp2_with fail
          go_roundw
          case rel => exact ⟨j + 1, by omega, by go_num, vg, vp, v0, HVR, vb, vz⟩
          case measure => simp [intOf]; omega
        · have hd : decide ((j : Int) < 9) = false := decide_eq_false (by omega)
          obtain rfl : j = 9 := by omega
          clear hd hj9 hj
          go_wp2_with fail
          have HE0 : Hid ((if (stR s (psC s).2.1 (psC s).2.2 (2 * psK s + 9)).2 = 0 then (if (stR s (psC s).2.1 (psC s).2.2 (2 * psK s + 9)).1 < s.size then (6 : Int) else 0) else (stR s (psC s).2.1 (psC s).2.2 (2 * psK s + 9)).2) = psE s) := rfl
          have HEN := end_rd s _ _ g w30 yg
          rw [HE0.out] at HEN
          refine HEN.mono ?_; rintro e w31 ⟨rfl, nd, rfl⟩
          have zp : holdsC (w30.drewN nd) p 25 (profC (psN s).1 (.slice A1 (psL s).length c1_) (psMn s 9)) := yp
          have z0 : holdsC (w30.drewN nd) B 25 #[.string ⟨#[]⟩, .slice none 0 0, .int .i64 0, .int .i64 0, .int .i64 0, .int .i64 0, .int .i64 0, .int .i64 0, .int .i64 0, .int .i64 0, .int .i64 0] := y0
          have HZR := Lib.hid (Kd.R_drewN HYR.out nd)
          have zb := below_drewN yb nd
          have zz : p + 1 ≤ (w30.drewN nd).heap.size := yz
          clear yg yp y0 HYR yb yz HEN HE0
          generalize w30.drewN nd = w32 at *
          have HPC : Hid (parseC s = if psE s = 0 then profCheck (psN s).1 (psL s) (psMn s 9) else psE s) := rfl
          have HZ : Hid (parseC s ≠ 0 → profC (parseN s) (.slice none (parseL s).length 0) (parseM s) = #[.string ⟨#[]⟩, .slice none 0 0, .int .i64 0, .int .i64 0, .int .i64 0, .int .i64 0, .int .i64 0, .int .i64 0, .int .i64 0, .int .i64 0, .int .i64 0] ∧ parseL s = []) := by
            intro hne
            unfold parseN parseL parseM
            rw [if_neg hne, if_neg hne, if_neg hne]
            exact ⟨rfl, rfl⟩
          have HG : Hid (parseC s = 0 → parseN s = (psN s).1 ∧ parseL s = psL s ∧ parseM s = psMn s 9) := by
            intro hne
            unfold parseN parseL parseM
            rw [if_pos hne, if_pos hne, if_pos hne]
            exact ⟨rfl, rfl, rfl⟩
          have HCK := Lib.hid (pcheck_any (psN s).1 A1 c1_ (psL s) (psMn s 9) w32 (by have := psN_size s; omega) (R_C HZR.out).2 (R_C HZR.out).1)
          generalize profCheck (psN s).1 (psL s) (psMn s 9) = pc at *
          generalize hpe : psE s = pe at *
          clear hpe
          by_cases hE : pe = 0
          · have hE' : (pe == 0) = true := by simpa using hE
            have HPC1 : Hid (parseC s = pc) := by show _ = _; rw [HPC.out, if_pos hE]
            clear HPC
            go_wp2_with (refine wpList_load_row rfl 25 (.tmp 5) rfl p rfl 25 (profC (psN s).1 (.slice A1 (psL s).length c1_) (psMn s 9)) (0, 0) _ zp Try.underlying25 rfl (profC_info _ _ _) ?_)
            refine HCK.out.mono ?_; rintro e w33 ⟨rfl, b1⟩
            have up := zp.kept b1 zp.lt
            have u0 := z0.kept b1 z0.lt
            have HUR := Lib.hid (Kd.R_below HZR.out b1)
            have ub := zb.trans (b1.mono (Nat.le_trans (Nat.le_of_eq HB.out.symm) zb.size))
            clear zp z0 zb b1 HZR HCK
            by_cases hC : pc = 0
            · have hC' : (pc == 0) = true := by simpa using hC
              obtain ⟨q1, q2, q3⟩ := HG.out (HPC1.out.trans hC)
              have q4 := HPC1.out.trans hC
              go_wp2_with (first | (refine wpList_load_row rfl 25 (.tmp 5) rfl p rfl 25 (profC (psN s).1 (.slice A1 (psL s).length c1_) (psMn s 9)) (0, 0) _ up Try.underlying25 rfl (profC_info _ _ _) ?_) | (refine wpList_store_row rfl 25 (.tmp 2) (.tmp 54) rfl B (profC (psN s).1 (.slice A1 (psL s).length c1_) (psMn s 9)) rfl rfl 25 _ u0 (profC_info _ _ _) (by rw [profC_size]; rfl) (profC_one _ _ _ rfl) ?_))
              have hR := R_C (R_setRow HUR.out (g := B) (by omega) (profC (psN s).1 (.slice A1 (psL s).length c1_) (psMn s 9)))
              refine bodyPost_ret (v := .tuple #[.agg (profC (psN s).1 (.slice A1 (psL s).length c1_) (psMn s 9)), .int .i64 0]) (results_row_tmp rfl _ _ rfl rfl (holdsC_row u0 _) rfl Try.underlying25 (profC_info _ _ _)) rfl ?_
              exact ⟨A1, c1_, by rw [q4, q1, q2, q3], by rw [q2]; exact hR.2, by rw [q2]; exact hR.1, by rw [HB.out]; exact below_setRow ub (Nat.le_refl _) _⟩
            · have hC' : (pc == 0) = false := by simpa using hC
              have HQ1 := HPC1.out
              have HQ2 := HZ.out (by rw [HQ1]; exact hC)
              go_wp2_with (first | (refine wpList_build_as rfl 25 _ rfl #[.string ⟨#[]⟩, .slice none 0 0, .int .i64 0, .int .i64 0, .int .i64 0, .int .i64 0, .int .i64 0, .int .i64 0, .int .i64 0, .int .i64 0, .int .i64 0] (by kernel_rfl) ?_) | (refine wpList_store_row rfl 25 (.tmp 2) (.tmp 52) rfl B #[.string ⟨#[]⟩, .slice none 0 0, .int .i64 0, .int .i64 0, .int .i64 0, .int .i64 0, .int .i64 0, .int .i64 0, .int .i64 0, .int .i64 0, .int .i64 0] rfl rfl 25 _ u0 (by kernel_rfl) rfl (by kernel_rfl) ?_))
              refine bodyPost_ret (v := .tuple #[.agg #[.string ⟨#[]⟩, .slice none 0 0, .int .i64 0, .int .i64 0, .int .i64 0, .int .i64 0, .int .i64 0, .int .i64 0, .int .i64 0, .int .i64 0, .int .i64 0], .int .i64 pc]) (results_row_tmp rfl _ _ rfl rfl (holdsC_row u0 _) rfl Try.underlying25 (by kernel_rfl)) rfl ?_
              exact ⟨none, 0, by rw [HQ1, HQ2.1], by rw [HQ2.2]; exact Kd.C_nil _ _, by rw [HQ2.2]; exact Nat.le_refl _, by rw [HB.out]; exact below_setRow ub (Nat.le_refl _) _⟩
          · have hE' : (pe == 0) = false := by simpa using hE
            have HQ1 : parseC s = pe := by rw [HPC.out, if_neg hE]
            have HQ2 := HZ.out (by rw [HQ1]; exact hE)
            go_wp2_with (first | (refine wpList_build_as rfl 25 _ rfl #[.string ⟨#[]⟩, .slice none 0 0, .int .i64 0, .int .i64 0, .int .i64 0, .int .i64 0, .int .i64 0, .int .i64 0, .int .i64 0, .int .i64 0, .int .i64 0] (by kernel_rfl) ?_) | (refine wpList_store_row rfl 25 (.tmp 2) (.tmp 46) rfl B #[.string ⟨#[]⟩, .slice none 0 0, .int .i64 0, .int .i64 0, .int .i64 0, .int .i64 0, .int .i64 0, .int .i64 0, .int .i64 0, .int .i64 0, .int .i64 0] rfl rfl 25 _ z0 (by kernel_rfl) rfl (by kernel_rfl) ?_))
            refine bodyPost_ret (v := .tuple #[.agg #[.string ⟨#[]⟩, .slice none 0 0, .int .i64 0, .int .i64 0, .int .i64 0, .int .i64 0, .int .i64 0, .int .i64 0, .int .i64 0, .int .i64 0, .int .i64 0], .int .i64 pe]) (results_row_tmp rfl _ _ rfl rfl (holdsC_row z0 _) rfl Try.underlying25 (by kernel_rfl)) rfl ?_
            exact ⟨none, 0, by rw [HQ1, HQ2.1], by rw [HQ2.2]; exact Kd.C_nil _ _, by rw [HQ2.2]; exact Nat.le_refl _, by rw [HB.out]; exact below_setRow zb (Nat.le_refl _) _⟩
end Go.Proofs.Ytlpfepcmpccbeaa.Pt
