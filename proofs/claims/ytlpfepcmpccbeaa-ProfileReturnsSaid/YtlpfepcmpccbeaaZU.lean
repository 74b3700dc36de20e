/-
  Proved: contracts of functions of the program and of the reference, several texts of mine in one; the conditions stand at each theorem.
-/
import Derived.Test.YtlpfepcmpccbeaaZT
/-
  What is read is what is written: a number that is read from a text is the text's own encoding there, and back.
-/
namespace Go.Proofs.Ytlpfepcmpccbeaa.Pt
open Go.RowKit Go.Proofs.Ytlpfepcmpccbeaa.NM Go.Proofs.Ytlpfepcmpccbeaa.Cv Go.Proofs.Ytlpfepcmpccbeaa.Wi Go.Proofs.Ytlpfepcmpccbeaa.Nm9 Go.Proofs.Ytlpfepcmpccbeaa.Mx Go.Proofs.Ytlpfepcmpccbeaa.Pf Go.Proofs.Ytlpfepcmpccbeaa.PNum Go.Proofs.YtlpfepcmpccbeaaW.PrintWords
set_option linter.unusedVariables false

/-- the text t lies in s at place a -/
def atB (s : ByteArray) (a : Nat) (t : ByteArray) : Prop := a + t.size ≤ s.size ∧ ∀ j : Nat, j < t.size → bt s ((a + j : Nat) : Int) = bt t (j : Int)
theorem bt_nat (s : ByteArray) (i : Nat) : bt s (i : Int) = if h : i < s.size then ((s[i]'h).toNat : Int) else 0 := by
  unfold bt
  simp only [Int.toNat_natCast]
theorem bt_append (t u : ByteArray) (j : Nat) : bt (t ++ u) (j : Int) = if j < t.size then bt t (j : Int) else bt u ((j - t.size : Nat) : Int) := by
  rw [bt_nat, bt_nat, bt_nat]
  by_cases h : j < t.size
  · rw [if_pos h, dif_pos h, dif_pos (show j < (t ++ u).size by rw [ByteArray.size_append]; omega)]
    rw [ByteArray.getElem_append_left h]
  · rw [if_neg h]
    by_cases h2 : j - t.size < u.size
    · rw [dif_pos h2, dif_pos (show j < (t ++ u).size by rw [ByteArray.size_append]; omega)]
      rw [ByteArray.getElem_append_right (by omega)]
    · rw [dif_neg h2, dif_neg (show ¬ j < (t ++ u).size by rw [ByteArray.size_append]; omega)]
theorem bt_extract (s : ByteArray) (a b : Nat) (hb : b ≤ s.size) (j : Nat) (hj : a + j < b) : bt (s.extract a b) (j : Int) = bt s ((a + j : Nat) : Int) := by
  rw [bt_nat, bt_nat]
  rw [dif_pos (show j < (s.extract a b).size by rw [ByteArray.size_extract]; omega), dif_pos (show a + j < s.size by omega)]
  rw [ByteArray.getElem_extract]
theorem eq_of_bt (s t : ByteArray) (hz : s.size = t.size) (h : ∀ j : Nat, j < t.size → bt s (j : Int) = bt t (j : Int)) : s = t := by
  apply ByteArray.ext
  apply Array.ext
  · exact hz
  · intro i h1 h2
    have := h i h2
    rw [bt_nat, bt_nat, dif_pos (show i < s.size from h1), dif_pos (show i < t.size from h2)] at this
    have h3 : (s[i]'h1).toNat = (t[i]'h2).toNat := by exact_mod_cast this
    exact UInt8.toNat.inj h3
theorem atB_append (s : ByteArray) (a : Nat) (t u : ByteArray) : atB s a (t ++ u) ↔ atB s a t ∧ atB s (a + t.size) u := by
  unfold atB
  rw [ByteArray.size_append]
  constructor
  · intro ⟨h1, h2⟩
    refine ⟨⟨by omega, fun j hj => ?_⟩, ⟨by omega, fun j hj => ?_⟩⟩
    · have := h2 j (by omega)
      rw [this, bt_append, if_pos hj]
    · have := h2 (t.size + j) (by omega)
      rw [bt_append, if_neg (by omega), show t.size + j - t.size = j by omega] at this
      rw [← this]
      congr 2; omega
  · intro ⟨⟨h1, h2⟩, ⟨h3, h4⟩⟩
    refine ⟨by omega, fun j hj => ?_⟩
    rw [bt_append]
    by_cases h : j < t.size
    · rw [if_pos h, h2 j h]
    · rw [if_neg h, ← h4 (j - t.size) (by omega)]
      congr 2; omega
theorem atB_refl (s : ByteArray) : atB s 0 s := ⟨by omega, fun j _ => by rw [Nat.zero_add]⟩
theorem atB_eq {s t : ByteArray} (h : atB s 0 t) (hz : t.size = s.size) : t = s :=
  (eq_of_bt s t hz.symm fun j hj => by have := h.2 j hj; rwa [Nat.zero_add] at this).symm
theorem atB_extract (s : ByteArray) (a b : Nat) (hab : a ≤ b) (hb : b ≤ s.size) : atB s a (s.extract a b) := by
  have hz : (s.extract a b).size = b - a := by rw [ByteArray.size_extract]; omega
  refine ⟨by omega, fun j hj => ?_⟩
  rw [bt_extract s a b hb j (by omega)]
theorem bt_str (xs : List Int) (hx : ∀ x ∈ xs, 0 ≤ x ∧ x ≤ 255) (j : Nat) (hj : j < xs.length) : bt (strOfNums xs) (j : Int) = xs.getD j 0 := by
  have hz : (strOfNums xs).size = xs.length := strOfNums_size xs
  rw [bt_nat, dif_pos (by omega)]
  have e : (strOfNums xs)[j]'(by omega) = UInt8.ofNat (xs[j]).toNat := by
    show (strOfNums xs).data[j]'_ = _
    unfold strOfNums
    simp
  rw [e, List.getD_eq_getElem?_getD, List.getElem?_eq_getElem hj]
  have := hx xs[j] (List.getElem_mem hj)
  show ((UInt8.ofNat (xs[j]).toNat).toNat : Int) = xs[j]
  rw [UInt8.toNat_ofNat']
  omega
theorem dig_byte : ∀ (f : Nat) (n : Int), 0 ≤ n → n < 256 * pw7 f → ∀ x ∈ dig f n, 0 ≤ x ∧ x ≤ 255
  | 0, n, h0, h1, x, hx => by
    have e : pw7 0 = 1 := rfl
    rw [e] at h1
    simp only [dig, List.mem_singleton] at hx
    omega
  | f + 1, n, h0, h1, x, hx => by
    rw [pw7_succ] at h1
    rw [dig] at hx
    by_cases h : n > 127
    · rw [if_pos h] at hx
      rcases List.mem_cons.1 hx with rfl | hx
      · omega
      · refine dig_byte f (n / 128) (by omega) ?_ x hx
        have := pw7_pos f
        omega
    · rw [if_neg h] at hx
      rw [List.mem_singleton] at hx
      omega
theorem pw7_9 : pw7 9 = 9223372036854775808 := by unfold pw7; decide
theorem bt_uintS (n : Int) (h : U64 n) (j : Nat) (hj : j < (dig 9 n).length) : bt (uintS n) (j : Int) = (dig 9 n).getD j 0 := by
  unfold U64 at h
  exact bt_str _ (dig_byte 9 n h.1 (by rw [pw7_9]; omega)) j hj
theorem uintS_len (n : Int) : (uintS n).size = (dig 9 n).length := strOfNums_size _
/-- the number from place i on -/
theorem numF_enc (s : ByteArray) (a : Nat) : ∀ (f i : Nat) (n N : Int) (b : Nat), f + 1 + i = 10 → numF s a (f + 1) i n = (N, b, 0) →
    ∃ T : Int, 0 ≤ T ∧ N = n + T * pw7 i ∧ (0 < i → 1 ≤ T) ∧ (T ≤ 1 ∨ f ≠ 0) ∧ b ≤ s.size ∧ b = a + i + (dig f T).length ∧ T < 256 * pw7 f ∧ ∀ j : Nat, j < (dig f T).length → bt s ((a + i + j : Nat) : Int) = (dig f T).getD j 0 := by
  intro f
  induction f with
  | zero =>
    intro i n N b hf h
    obtain rfl : i = 9 := by omega
    rw [numF_succ] at h
    by_cases hz : s.size ≤ a + 9
    · rw [if_pos hz] at h; simp at h
    · rw [if_neg hz] at h
      have hbr := bt_range s ((a + 9 : Nat) : Int)
      generalize hc : bt s ((a + 9 : Nat) : Int) = c at *
      by_cases hb : badB c 9 = true
      · rw [if_pos hb] at h; simp at h
      · rw [if_neg hb] at h
        have h1 := badB9 (by simpa using hb)
        have h2 : c ≠ 0 := by
          intro h0; apply hb; unfold badB; simp [h0]
        rw [if_pos (by omega)] at h
        injection h with e1 e2
        injection e2 with e2 e3
        refine ⟨c, hbr.1, by rw [← e1]; congr 2; omega, fun _ => by omega, Or.inl h1, by omega, by simp [dig]; omega, by show c < 256 * 1; omega, fun j hj => ?_⟩
        simp only [dig, List.length_singleton] at hj
        obtain rfl : j = 0 := by omega
        simpa [dig] using hc
  | succ f ih =>
    intro i n N b hf h
    rw [numF_succ] at h
    by_cases hz : s.size ≤ a + i
    · rw [if_pos hz] at h; simp at h
    · rw [if_neg hz] at h
      have hbr := bt_range s ((a + i : Nat) : Int)
      generalize hc : bt s ((a + i : Nat) : Int) = c at *
      by_cases hb : badB c i = true
      · rw [if_pos hb] at h; simp at h
      · rw [if_neg hb] at h
        have h2 : 0 < i → c ≠ 0 := by
          intro hi h0; apply hb; unfold badB; simp [h0, hi]
        have hp := pw7_pos f
        by_cases hc1 : c < 128
        · rw [if_pos hc1] at h
          injection h with e1 e2
          injection e2 with e2 e3
          have ed : dig (f + 1) c = [c] := by rw [dig, if_neg (by omega)]
          refine ⟨c, hbr.1, by rw [← e1]; congr 2; omega, fun hi => by have := h2 hi; omega, Or.inr (by omega), by omega, by rw [ed]; simp; omega, by rw [pw7_succ]; omega, fun j hj => ?_⟩
          rw [ed] at hj ⊢
          simp only [List.length_singleton] at hj
          obtain rfl : j = 0 := by omega
          simpa using hc
        · rw [if_neg hc1] at h
          obtain ⟨T, t0, tN, t1, t9, tb, tl, tu, tj⟩ := ih (i + 1) _ N b (by omega) h
          have t1 := t1 (by omega)
          have ed : dig (f + 1) (c % 128 + 128 * T) = (c % 128 + 128) :: dig f T := by
            rw [dig, if_pos (by omega), show (c % 128 + 128 * T) % 128 = c % 128 by omega, show (c % 128 + 128 * T) / 128 = T by omega]
          refine ⟨c % 128 + 128 * T, by omega, ?_, fun _ => by omega, Or.inr (by omega), tb, ?_, by rw [pw7_succ]; omega, fun j hj => ?_⟩
          · rw [tN, pw7_succ, Int.add_mul, Int.add_assoc]
            congr 2
            rw [← Int.mul_assoc, Int.mul_comm T 128]
          · rw [ed, tl]; simp; omega
          · rw [ed] at hj ⊢
            match j with
            | 0 =>
              show bt s ((a + i : Nat) : Int) = c % 128 + 128
              rw [hc]; omega
            | j + 1 =>
              have := tj j (by simpa using hj)
              rw [show a + (i + 1) + j = a + i + (j + 1) by omega] at this
              simpa using this
/-- a number that is read is encoded as it stands there -/
theorem numS_enc (s : ByteArray) (a : Nat) {n : Int} {b : Nat} (h : numS s a = (n, b, 0)) : atB s a (uintS n) ∧ b = a + (uintS n).size := by
  obtain ⟨T, t0, tN, -, -, tb, tl, tu, tj⟩ := numF_enc s a 9 0 0 n b rfl h
  have hr := numS_range s a
  rw [h] at hr
  have e : n = T := by rw [tN]; unfold pw7; simp
  subst e
  have hl := uintS_len n
  refine ⟨⟨by omega, fun j hj => ?_⟩, by omega⟩
  rw [bt_uintS n hr.1 j (by omega)]
  exact tj j (by omega)
/-- and back: a number is read where its encoding begins; if the text ends within it, the error is 5 -/
theorem numF_dec (s : ByteArray) (a : Nat) : ∀ (f i : Nat) (n T : Int), f + 1 + i = 10 → 0 ≤ T → T < 2 * pw7 f → (0 < i → 1 ≤ T) → (∀ j : Nat, j < (dig f T).length → a + i + j < s.size → bt s ((a + i + j : Nat) : Int) = (dig f T).getD j 0) →
    numF s a (f + 1) i n = if a + i + (dig f T).length ≤ s.size then (n + T * pw7 i, a + i + (dig f T).length, 0) else (0, a, 5) := by
  intro f
  induction f with
  | zero =>
    intro i n T hf h0 hT h1 hj
    obtain rfl : i = 9 := by omega
    have e1 : pw7 0 = 1 := rfl
    rw [e1] at hT
    have h1 := h1 (by omega)
    rw [numF_succ]
    have el : (dig 0 T).length = 1 := rfl
    rw [el]
    by_cases hz : s.size ≤ a + 9
    · rw [if_pos hz, if_neg (by omega)]
    · rw [if_neg hz, if_pos (show a + 9 + 1 ≤ s.size by omega)]
      have := hj 0 (by rw [el]; omega) (by omega)
      rw [Nat.add_zero] at this
      rw [this]
      have e2 : (dig 0 T).getD 0 0 = T := rfl
      rw [e2]
      have hb : ¬ badB T 9 = true := by unfold badB; simp; omega
      rw [if_neg hb, if_pos (by omega), show T % 128 = T by omega]
  | succ f ih =>
    intro i n T hf h0 hT h1 hj
    have hp := pw7_pos f
    rw [pw7_succ] at hT
    rw [numF_succ]
    by_cases hz : s.size ≤ a + i
    · have : 0 < (dig (f + 1) T).length := by rw [dig]; split <;> simp
      rw [if_pos hz, if_neg (by omega)]
    · rw [if_neg hz]
      have hi9 : i ≠ 9 := by omega
      by_cases hT1 : T > 127
      · have ed : dig (f + 1) T = (T % 128 + 128) :: dig f (T / 128) := by rw [dig, if_pos hT1]
        rw [ed] at hj ⊢
        have hb0 := hj 0 (by simp) (by omega)
        rw [Nat.add_zero] at hb0
        rw [hb0]
        have e2 : ((T % 128 + 128) :: dig f (T / 128)).getD 0 0 = T % 128 + 128 := rfl
        rw [e2]
        have hb : ¬ badB (T % 128 + 128) i = true := by unfold badB; simp [hi9]; omega
        rw [if_neg hb, if_neg (by omega), ih (i + 1) _ (T / 128) (by omega) (by omega) (by omega) (fun _ => by omega)]
        · have e3 : a + (i + 1) + (dig f (T / 128)).length = a + i + ((T % 128 + 128) :: dig f (T / 128)).length := by simp; omega
          rw [e3]
          have e4 : n + (T % 128 + 128) % 128 * pw7 i + T / 128 * pw7 (i + 1) = n + T * pw7 i := by
            rw [pw7_succ, ← Int.mul_assoc, Int.add_assoc, ← Int.add_mul]
            congr 2
            omega
          rw [e4]
        · intro j hjl hjs
          have := hj (j + 1) (by simp; omega) (by omega)
          rw [show a + i + (j + 1) = a + (i + 1) + j by omega] at this
          simpa using this
      · have ed : dig (f + 1) T = [T] := by rw [dig, if_neg hT1]
        rw [ed] at hj ⊢
        have hb0 := hj 0 (by simp) (by omega)
        rw [Nat.add_zero] at hb0
        rw [hb0]
        have e2 : ([T] : List Int).getD 0 0 = T := rfl
        rw [e2]
        have hb : ¬ badB T i = true := by
          unfold badB; simp [hi9]
          intro hi; have := h1 hi; omega
        rw [if_neg hb, if_pos (by omega), show T % 128 = T by omega]
        have e3 : ([T] : List Int).length = 1 := rfl
        rw [e3, if_pos (by omega)]
/-- a beginning of a text -/
def cutB (s : ByteArray) (c : Nat) : ByteArray := s.extract 0 c
theorem cutB_size {s : ByteArray} {c : Nat} (h : c ≤ s.size) : (cutB s c).size = c := by unfold cutB; rw [ByteArray.size_extract]; omega
theorem cutB_bt {s : ByteArray} {c : Nat} (h : c ≤ s.size) (j : Nat) (hj : j < c) : bt (cutB s c) (j : Int) = bt s (j : Int) := by
  unfold cutB
  rw [bt_extract s 0 c h j (by omega), Nat.zero_add]
theorem atB_cut {s t : ByteArray} {a c : Nat} (h : atB s a t) (hc : c ≤ s.size) (h2 : a + t.size ≤ c) : atB (cutB s c) a t := by
  refine ⟨by rw [cutB_size hc]; exact h2, fun j hj => ?_⟩
  rw [cutB_bt hc (a + j) (by omega)]
  exact h.2 j hj
/-- a number is read in a beginning of a text -/
theorem numS_cut {s : ByteArray} {a c : Nat} {n : Int} (hn : U64 n) (h : atB s a (uintS n)) (hc : c ≤ s.size) : numS (cutB s c) a = if a + (uintS n).size ≤ c then (n, a + (uintS n).size, 0) else (0, a, 5) := by
  have hl := uintS_len n
  have hu := hn
  unfold U64 at hu
  have := numF_dec (cutB s c) a 9 0 0 n rfl hu.1 (by rw [pw7_9]; omega) (fun h => absurd h (by omega)) (fun j hj hjs => by
    rw [cutB_size hc] at hjs
    rw [Nat.add_zero] at hjs ⊢
    rw [cutB_bt hc (a + j) hjs, h.2 j (by omega), bt_uintS n hn j hj])
  unfold numS
  rw [this, cutB_size hc, hl]
  have e : pw7 0 = 1 := rfl
  rw [e, Nat.add_zero, Int.zero_add, Int.mul_one]
theorem cutB_all (s : ByteArray) : cutB s s.size = s := by
  refine eq_of_bt _ _ (cutB_size (Nat.le_refl _)) fun j hj => cutB_bt (Nat.le_refl _) j hj
theorem zig_unz (u : Int) (h : U64 u) : zig (unz u) = u := by
  unfold U64 at h
  unfold zig unz
  by_cases h1 : u % 2 = 1
  · rw [if_pos h1, if_pos (by omega)]; omega
  · rw [if_neg h1, if_neg (by omega)]; omega
theorem unz_zig (n : Int) : unz (zig n) = n := by
  unfold zig unz
  by_cases h1 : n < 0
  · rw [if_pos h1, if_pos (by omega)]; omega
  · rw [if_neg h1, if_neg (by omega)]; omega
end Go.Proofs.Ytlpfepcmpccbeaa.Pt
/-
  The encoding of what is parsed is the text that was parsed; what is encoded is parsed again, and no beginning of it is.
-/
namespace Go.Proofs.Ytlpfepcmpccbeaa.Pt
open Go.RowKit Go.Proofs.Ytlpfepcmpccbeaa.NM Go.Proofs.Ytlpfepcmpccbeaa.Cv Go.Proofs.Ytlpfepcmpccbeaa.Wi Go.Proofs.Ytlpfepcmpccbeaa.Nm9 Go.Proofs.Ytlpfepcmpccbeaa.Mx Go.Proofs.Ytlpfepcmpccbeaa.Pf Go.Proofs.Ytlpfepcmpccbeaa.PNum Go.Proofs.YtlpfepcmpccbeaaW.PrintWords
set_option linter.unusedVariables false

/-- the numbers of a profile: the knots', then the matrix' -/
def nsP (l : List Kn) (m : Nat → Int) (i : Nat) : Int := if i < 2 * l.length then (if i % 2 = 0 then kx l (i / 2) else ky l (i / 2)) else m (i - 2 * l.length)
def accN (s : ByteArray) (ns : Nat → Int) : Nat → ByteArray
  | 0 => s
  | i + 1 => accN s ns i ++ intS (ns i)
theorem bapp (a b c : ByteArray) : a ++ (b ++ c) = a ++ b ++ c := by
  apply ByteArray.ext
  simp
theorem accK_N (s : ByteArray) (l : List Kn) (m : Nat → Int) : ∀ i, i ≤ l.length → accK s l i = accN s (nsP l m) (2 * i)
  | 0, _ => rfl
  | i + 1, h => by
    have e : 2 * (i + 1) = 2 * i + 1 + 1 := by omega
    rw [e]
    show accK s l i ++ (intS (kx l i) ++ intS (ky l i)) = accN s (nsP l m) (2 * i) ++ intS (nsP l m (2 * i)) ++ intS (nsP l m (2 * i + 1))
    rw [accK_N s l m i (by omega), bapp]
    have e1 : nsP l m (2 * i) = kx l i := by
      unfold nsP
      rw [if_pos (by omega), if_pos (by omega), show 2 * i / 2 = i by omega]
    have e2 : nsP l m (2 * i + 1) = ky l i := by
      unfold nsP
      rw [if_pos (by omega), if_neg (by omega), show (2 * i + 1) / 2 = i by omega]
    rw [e1, e2]
theorem accM_N (s : ByteArray) (l : List Kn) (m : Nat → Int) : ∀ i, accM (accK s l l.length) m i = accN s (nsP l m) (2 * l.length + i)
  | 0 => accK_N s l m l.length (Nat.le_refl _)
  | i + 1 => by
    show accM (accK s l l.length) m i ++ intS (m i) = accN s (nsP l m) (2 * l.length + i) ++ intS (nsP l m (2 * l.length + i))
    have e1 : nsP l m (2 * l.length + i) = m i := by
      unfold nsP
      rw [if_neg (by omega), show 2 * l.length + i - 2 * l.length = i by omega]
    rw [accM_N s l m i, e1]
theorem bytesV_N (nm : ByteArray) (l : List Kn) (m : Nat → Int) : bytesV nm l m = accN (headS nm l) (nsP l m) (2 * l.length + 9) := accM_N _ l m 9
theorem accN_at {s b : ByteArray} {ns : Nat → Int} : ∀ (d i : Nat), atB s 0 (accN b ns (i + d)) → atB s 0 (accN b ns i)
  | 0, i, h => h
  | d + 1, i, h => accN_at d i ((atB_append s 0 _ _).1 h).1
/-- the head -/
theorem rU_of (s : ByteArray) (a : Nat) {e : Int} (he : e = 0) : rU s a e = numS s a := by subst he; exact if_pos rfl
theorem psN_ok (s : ByteArray) (h : (psN s).2.2 = 0) : ∃ (n : Int) (b : Nat), numS s 0 = (n, b, 0) ∧ 0 ≤ n ∧ n ≤ 32 ∧ b + n.toNat ≤ s.size ∧ psN s = (s.extract b (b + n.toNat), b + n.toNat, 0) := by
  obtain ⟨R, hR⟩ : ∃ R, numS s 0 = R := ⟨_, rfl⟩
  obtain ⟨n, b, e⟩ := R
  have hr := numS_range s 0
  rw [hR] at hr
  by_cases he : e = 0
  · subst he
    by_cases hn : 32 < n
    · rw [psN_2 s hR hn] at h; exact absurd h (by simp)
    · by_cases hz : (s.size : Int) - (b : Int) < n
      · rw [psN_3 s hR hn hz] at h; exact absurd h (by simp)
      · exact ⟨n, b, hR, hr.1.1, by omega, by have := hr.1.1; simp only at this; omega, psN_4 s hR hn hz⟩
  · rw [psN_1 s hR he] at h; exact absurd h he
theorem psC_ok (s : ByteArray) (hN : (psN s).2.2 = 0) (h : (psC s).2.2 = 0) : ∃ (n : Int) (b : Nat), numS s (psN s).2.1 = (n, b, 0) ∧ 0 ≤ n ∧ n ≤ 16 ∧ psC s = (n, b, 0) := by
  have hp : psN s = ((psN s).1, (psN s).2.1, 0) := by rw [← hN]
  obtain ⟨R, hR⟩ : ∃ R, numS s (psN s).2.1 = R := ⟨_, rfl⟩
  obtain ⟨n, b, e⟩ := R
  have hr := numS_range s (psN s).2.1
  rw [hR] at hr
  by_cases he : e = 0
  · subst he
    by_cases hn : 16 < n
    · rw [psC_2 s hp hR hn] at h; exact absurd h (by simp)
    · exact ⟨n, b, hR, hr.1.1, by omega, psC_3 s hp hR hn⟩
  · rw [psC_1 s hp hR he] at h; exact absurd h he
theorem psL_len (s : ByteArray) : (psL s).length = psK s := by unfold psL; simp
theorem psL_x (s : ByteArray) (i : Nat) (h : i < psK s) : kx (psL s) i = vlR s (psC s).2.1 (psC s).2.2 (2 * i) ∧ ky (psL s) i = vlR s (psC s).2.1 (psC s).2.2 (2 * i + 1) := by
  unfold kx ky psL
  simp [List.getD_eq_getElem?_getD, h]
theorem ns_vl (s : ByteArray) (i : Nat) (h : i < 2 * psK s + 9) : nsP (psL s) (psMn s 9) i = vlR s (psC s).2.1 (psC s).2.2 i := by
  unfold nsP
  rw [psL_len]
  by_cases h1 : i < 2 * psK s
  · rw [if_pos h1]
    have hx := psL_x s (i / 2) (by omega)
    by_cases h2 : i % 2 = 0
    · rw [if_pos h2, hx.1, show 2 * (i / 2) = i by omega]
    · rw [if_neg h2, hx.2, show 2 * (i / 2) + 1 = i by omega]
  · rw [if_neg h1]
    unfold psMn
    rw [if_pos (by omega), show 2 * psK s + (i - 2 * psK s) = i by omega]
theorem parse_ok (s : ByteArray) (h : parseC s = 0) : psE s = 0 ∧ profCheck (psN s).1 (psL s) (psMn s 9) = 0 := by
  unfold parseC at h
  by_cases he : psE s = 0
  · rw [if_pos he] at h; exact ⟨he, h⟩
  · rw [if_neg he] at h; exact absurd h he
/-- what is parsed is encoded as the text -/
theorem parse_bytes (s : ByteArray) (h : parseC s = 0) : bytesP (parseN s) (parseL s) (parseM s) = s := by
  obtain ⟨hE, hP⟩ := parse_ok s h
  have q1 : parseN s = (psN s).1 := if_pos h
  have q2 : parseL s = psL s := if_pos h
  have q3 : parseM s = psMn s 9 := if_pos h
  rw [q1, q2, q3]
  unfold bytesP
  rw [if_pos hP]
  have hst : ∀ i, i ≤ 2 * psK s + 9 → (stR s (psC s).2.1 (psC s).2.2 i).2 = 0 := by
    intro i hi
    by_cases hz : (stR s (psC s).2.1 (psC s).2.2 i).2 = 0
    · exact hz
    · exact absurd ((parse3 s i hi hz).symm.trans h) hz
  have hC : (psC s).2.2 = 0 := hst 0 (by omega)
  have hN : (psN s).2.2 = 0 := by
    by_cases hz : (psN s).2.2 = 0
    · exact hz
    · exact absurd ((parse1 s hz).symm.trans h) hz
  obtain ⟨n, b, r1, n0, n1, hb, hpn⟩ := psN_ok s hN
  obtain ⟨k, b2, r2, k0, k1, hpc⟩ := psC_ok s hN hC
  have g1 := numS_enc s 0 r1
  have g2 := numS_enc s _ r2
  have hnm : (psN s).1 = s.extract b (b + n.toNat) := by rw [hpn]
  have hna : (psN s).2.1 = b + n.toNat := by rw [hpn]
  have hsz : (s.extract b (b + n.toNat)).size = n.toNat := by rw [ByteArray.size_extract]; omega
  have hK : (psL s).length = k.toNat := by rw [psL_len]; unfold psK; rw [hpc]
  have hhd : headS (psN s).1 (psL s) = uintS n ++ s.extract b (b + n.toNat) ++ uintS k := by
    unfold headS textS
    rw [hnm, hsz, hK, show ((n.toNat : Nat) : Int) = n by omega, show ((k.toNat : Nat) : Int) = k by omega]
  have hend : (stR s (psC s).2.1 (psC s).2.2 (2 * psK s + 9)).1 = s.size := by
    have e1 := stR_at (s := s) (a := (psC s).2.1) (psC s).2.2 (by rw [hpc]; have := g2.1.1; show b2 ≤ s.size; omega) (2 * psK s + 9)
    have e2 : ¬ (stR s (psC s).2.1 (psC s).2.2 (2 * psK s + 9)).1 < s.size := by
      intro hlt
      have := parse4 s (hst _ (Nat.le_refl _)) hlt
      rw [h] at this
      exact absurd this (by omega)
    omega
  have hall : ∀ i, i ≤ 2 * psK s + 9 → atB s 0 (accN (headS (psN s).1 (psL s)) (nsP (psL s) (psMn s 9)) i) ∧ (accN (headS (psN s).1 (psL s)) (nsP (psL s) (psMn s 9)) i).size = (stR s (psC s).2.1 (psC s).2.2 i).1 := by
    intro i
    induction i with
    | zero =>
      intro _
      show atB s 0 (headS (psN s).1 (psL s)) ∧ (headS (psN s).1 (psL s)).size = (psC s).2.1
      have hz2 : (uintS n ++ s.extract b (b + n.toNat)).size = b + n.toNat := by rw [ByteArray.size_append, hsz]; omega
      rw [hhd, ByteArray.size_append, hz2, hpc]
      refine ⟨(atB_append _ _ _ _).2 ⟨(atB_append _ _ _ _).2 ⟨g1.1, ?_⟩, ?_⟩, ?_⟩
      · rw [← g1.2]; exact atB_extract s b _ (by omega) hb
      · rw [hz2, Nat.zero_add, ← hna]; exact g2.1
      · have := g2.2; rw [hna] at this; exact this.symm
    | succ i ih =>
      intro hi
      obtain ⟨h1, h2⟩ := ih (by omega)
      have he := hst i (by omega)
      have he2 := hst (i + 1) hi
      have hv : vlR s (psC s).2.1 (psC s).2.2 i = unz (numS s (stR s (psC s).2.1 (psC s).2.2 i).1).1 := by
        unfold vlR; rw [rU_of _ _ he]
      have hs2 : stR s (psC s).2.1 (psC s).2.2 (i + 1) = (numS s (stR s (psC s).2.1 (psC s).2.2 i).1).2 := by
        show (rU s (stR s (psC s).2.1 (psC s).2.2 i).1 (stR s (psC s).2.1 (psC s).2.2 i).2).2 = _
        rw [rU_of _ _ he]
      rw [hs2] at he2 ⊢
      have hrg := numS_range s (stR s (psC s).2.1 (psC s).2.2 i).1
      generalize (stR s (psC s).2.1 (psC s).2.2 i).1 = p at *
      obtain ⟨R, hR⟩ : ∃ R, numS s p = R := ⟨_, rfl⟩
      rw [hR] at he2 hv hrg ⊢
      obtain ⟨u, q, e⟩ := R
      simp only at he2 hv hrg ⊢
      subst he2
      have g := numS_enc s p hR
      have hi2 : intS (nsP (psL s) (psMn s 9) i) = uintS u := by
        rw [ns_vl s i (by omega), hv]
        unfold intS
        rw [zig_unz u hrg.1]
      show atB s 0 (accN _ _ i ++ intS (nsP (psL s) (psMn s 9) i)) ∧ (accN _ _ i ++ intS (nsP (psL s) (psMn s 9) i)).size = q
      rw [hi2, ByteArray.size_append, h2]
      refine ⟨(atB_append _ _ _ _).2 ⟨h1, ?_⟩, g.2.symm⟩
      rw [h2, Nat.zero_add]; exact g.1
  obtain ⟨t1, t2⟩ := hall _ (Nat.le_refl _)
  rw [bytesV_N, psL_len]
  exact atB_eq t1 (t2.trans hend)
theorem nsP_u64 {nm : ByteArray} {l : List Kn} {m : Nat → Int} (h : profCheck nm l m = 0) (i : Nat) (hi : i < 2 * l.length + 9) : U64 (zig (nsP l m i)) := by
  obtain ⟨-, hm, hk, -, -⟩ := prof_ok h
  obtain ⟨-, -, hk⟩ := checkK_zero hk
  apply zig_u64
  unfold nsP I64
  by_cases h1 : i < 2 * l.length
  · rw [if_pos h1]
    obtain ⟨⟨⟨x0, x1⟩, ⟨y0, y1⟩⟩, -⟩ := hk (i / 2) (by omega)
    by_cases h2 : i % 2 = 0
    · rw [if_pos h2]; omega
    · rw [if_neg h2]; omega
  · rw [if_neg h1]
    have := hm (i - 2 * l.length) (by omega)
    omega
theorem cut_stage {S : ByteArray} {b : ByteArray} {ns : Nat → Int} {N c : Nat} (hS : atB S 0 (accN b ns N)) (hu : ∀ i, i < N → U64 (zig (ns i))) (hc : c ≤ S.size) (hb : b.size ≤ c) :
    ∀ i, i ≤ N → ((accN b ns i).size ≤ c → stR (cutB S c) b.size 0 i = ((accN b ns i).size, 0) ∧ ∀ j, j < i → vlR (cutB S c) b.size 0 j = ns j) ∧ (c < (accN b ns i).size → ∃ k, k ≤ i ∧ (stR (cutB S c) b.size 0 k).2 = 5) := by
  intro i
  induction i with
  | zero => exact fun _ => ⟨fun _ => ⟨rfl, fun j hj => absurd hj (by omega)⟩, fun h => absurd h (by show ¬ c < b.size; omega)⟩
  | succ i ih =>
    intro hi
    obtain ⟨h1, h2⟩ := ih (by omega)
    have hz : (accN b ns (i + 1)).size = (accN b ns i).size + (intS (ns i)).size := ByteArray.size_append
    by_cases hci : c < (accN b ns i).size
    · obtain ⟨k, hk, he⟩ := h2 hci
      exact ⟨fun h => absurd h (by omega), fun _ => ⟨k, by omega, he⟩⟩
    · obtain ⟨hst, hvl⟩ := h1 (by omega)
      have hat : atB S (accN b ns i).size (uintS (zig (ns i))) := by
        have := accN_at (s := S) (b := b) (ns := ns) (N - (i + 1)) (i + 1) (by rw [show i + 1 + (N - (i + 1)) = N by omega]; exact hS)
        have := ((atB_append S 0 _ _).1 this).2
        rw [Nat.zero_add] at this
        exact this
      have hn := numS_cut (hu i (by omega)) hat hc
      have hr : rU (cutB S c) (stR (cutB S c) b.size 0 i).1 (stR (cutB S c) b.size 0 i).2 = if (accN b ns i).size + (uintS (zig (ns i))).size ≤ c then (zig (ns i), (accN b ns i).size + (uintS (zig (ns i))).size, 0) else (0, (accN b ns i).size, 5) := by
        rw [hst, rU_of _ _ rfl, hn]
      have hs2 : stR (cutB S c) b.size 0 (i + 1) = (rU (cutB S c) (stR (cutB S c) b.size 0 i).1 (stR (cutB S c) b.size 0 i).2).2 := rfl
      have hv2 : vlR (cutB S c) b.size 0 i = unz (rU (cutB S c) (stR (cutB S c) b.size 0 i).1 (stR (cutB S c) b.size 0 i).2).1 := rfl
      rw [hr] at hs2 hv2
      have hzz : (intS (ns i)).size = (uintS (zig (ns i))).size := rfl
      refine ⟨fun h => ?_, fun h => ⟨i + 1, Nat.le_refl _, ?_⟩⟩
      · rw [if_pos (by omega)] at hs2 hv2
        refine ⟨by rw [hs2, hz, hzz], fun j hj => ?_⟩
        by_cases hji : j = i
        · subst hji; rw [hv2]; exact unz_zig _
        · exact hvl j (by omega)
      · rw [if_neg (by omega)] at hs2
        rw [hs2]
/-- a beginning of an encoding, parsed: the name and the count -/
theorem cut_head {nm : ByteArray} {l : List Kn} {S : ByteArray} {c : Nat} (hnm : nm.size ≤ 32) (hl : l.length ≤ 16) (hS : atB S 0 (headS nm l)) (hc : c ≤ S.size) :
    ((headS nm l).size ≤ c → psN (cutB S c) = (nm, (textS nm).size, 0) ∧ psC (cutB S c) = ((l.length : Int), (headS nm l).size, 0)) ∧ (c < (headS nm l).size → parseC (cutB S c) = 5) := by
  have hz : (headS nm l).size = (textS nm).size + (uintS (l.length : Int)).size := ByteArray.size_append
  have hz2 : (textS nm).size = (uintS (nm.size : Int)).size + nm.size := ByteArray.size_append
  obtain ⟨a1, a3⟩ := (atB_append S 0 (textS nm) (uintS (l.length : Int))).1 hS
  obtain ⟨a1, a2⟩ := (atB_append S 0 (uintS (nm.size : Int)) nm).1 a1
  rw [Nat.zero_add] at a2 a3
  have hcz := cutB_size hc
  have r1 := numS_cut (show U64 (nm.size : Int) by unfold U64; omega) a1 hc
  rw [Nat.zero_add] at r1
  by_cases h1 : (uintS (nm.size : Int)).size ≤ c
  · rw [if_pos h1] at r1
    by_cases h2 : (textS nm).size ≤ c
    · have hp := psN_4 _ r1 (by omega) (by rw [hcz]; omega)
      have hex : (cutB S c).extract (uintS (nm.size : Int)).size ((uintS (nm.size : Int)).size + ((nm.size : Nat) : Int).toNat) = nm := by
        rw [show ((nm.size : Nat) : Int).toNat = nm.size by omega]
        refine eq_of_bt _ _ (by rw [ByteArray.size_extract, hcz]; omega) fun j hj => ?_
        rw [bt_extract _ _ _ (by rw [hcz]; omega) j (by omega), cutB_bt hc _ (by omega)]
        exact a2.2 j hj
      rw [hex, show (uintS (nm.size : Int)).size + ((nm.size : Nat) : Int).toNat = (textS nm).size by omega] at hp
      have r2 := numS_cut (show U64 (l.length : Int) by unfold U64; omega) a3 hc
      by_cases h3 : (headS nm l).size ≤ c
      · rw [if_pos (by omega), ← hz] at r2
        exact ⟨fun _ => ⟨hp, psC_3 _ hp r2 (by omega)⟩, fun h => absurd h (by omega)⟩
      · rw [if_neg (by omega)] at r2
        have hq := psC_1 _ hp r2 (by omega)
        refine ⟨fun h => absurd h h3, fun _ => ?_⟩
        rw [parse2 _ (by rw [hq]; show (5 : Int) ≠ 0; omega), hq]
    · have hp := psN_3 _ r1 (by omega) (by rw [hcz]; omega)
      refine ⟨fun h => absurd h (by omega), fun _ => ?_⟩
      rw [parse1 _ (by rw [hp]; show (5 : Int) ≠ 0; omega), hp]
  · rw [if_neg h1] at r1
    have hp := psN_1 _ r1 (by omega)
    refine ⟨fun h => absurd h (by omega), fun _ => ?_⟩
    rw [parse1 _ (by rw [hp]; show (5 : Int) ≠ 0; omega), hp]
theorem bytesV_at (nm : ByteArray) (l : List Kn) (m : Nat → Int) : atB (bytesV nm l m) 0 (accN (headS nm l) (nsP l m) (2 * l.length + 9)) := by
  rw [← bytesV_N]; exact atB_refl _
/-- no beginning of an encoding is one -/
theorem cut_short {nm : ByteArray} {l : List Kn} {m : Nat → Int} (h : profCheck nm l m = 0) {c : Nat} (hc : c < (bytesV nm l m).size) : parseC (cutB (bytesV nm l m) c) = 5 := by
  obtain ⟨⟨hnm, -⟩, hm, hk, -, -⟩ := prof_ok h
  obtain ⟨hl2, hl, -⟩ := checkK_zero hk
  have hS := bytesV_at nm l m
  have hH := accN_at (2 * l.length + 9) 0 (by rw [Nat.zero_add]; exact hS)
  obtain ⟨c1, c2⟩ := cut_head hnm hl hH (Nat.le_of_lt hc)
  by_cases h1 : c < (headS nm l).size
  · exact c2 h1
  · obtain ⟨hp, hq⟩ := c1 (by omega)
    have hK : psK (cutB (bytesV nm l m) c) = l.length := by unfold psK; rw [hq]; show ((l.length : Nat) : Int).toNat = _; omega
    obtain ⟨k, hk, he⟩ := (cut_stage hS (fun i hi => nsP_u64 h i hi) (Nat.le_of_lt hc) (by omega) _ (Nat.le_refl _)).2 (by rw [← bytesV_N]; exact hc)
    have e1 : stR (cutB (bytesV nm l m) c) (psC (cutB (bytesV nm l m) c)).2.1 (psC (cutB (bytesV nm l m) c)).2.2 k = stR (cutB (bytesV nm l m) c) (headS nm l).size 0 k := by rw [hq]
    rw [parse3 _ k (by rw [hK]; exact hk) (by rw [e1, he]; omega), e1, he]
theorem kn_ext {l l' : List Kn} (h : l.length = l'.length) (hx : ∀ i, i < l.length → kx l i = kx l' i ∧ ky l i = ky l' i) : l = l' := by
  apply List.ext_getElem h
  intro i h1 h2
  have := hx i h1
  unfold kx ky at this
  rw [List.getD_eq_getElem?_getD, List.getD_eq_getElem?_getD, List.getElem?_eq_getElem h1, List.getElem?_eq_getElem h2] at this
  obtain ⟨e1, e2⟩ := this
  simp only [Option.getD_some] at e1 e2
  generalize l[i]'h1 = p at *
  generalize l'[i]'h2 = q at *
  obtain ⟨x1, y1⟩ := p
  obtain ⟨x2, y2⟩ := q
  simp only at e1 e2
  rw [e1, e2]
/-- what is encoded is parsed again -/
theorem parse_of {nm : ByteArray} {l : List Kn} {m : Nat → Int} (h : profCheck nm l m = 0) (hm9 : ∀ k, 9 ≤ k → m k = 0) : parseC (bytesV nm l m) = 0 ∧ parseN (bytesV nm l m) = nm ∧ parseL (bytesV nm l m) = l ∧ parseM (bytesV nm l m) = m := by
  obtain ⟨⟨hnm, -⟩, hm, hk, -, -⟩ := prof_ok h
  obtain ⟨hl2, hl, -⟩ := checkK_zero hk
  have hS := bytesV_at nm l m
  have hH := accN_at (2 * l.length + 9) 0 (by rw [Nat.zero_add]; exact hS)
  obtain ⟨c1, -⟩ := cut_head hnm hl hH (Nat.le_refl _)
  obtain ⟨hp, hq⟩ := c1 (by have := hH.1; show (accN (headS nm l) (nsP l m) 0).size ≤ _; omega)
  have hst := (cut_stage hS (fun i hi => nsP_u64 h i hi) (Nat.le_refl _) (by have := hH.1; show (accN (headS nm l) (nsP l m) 0).size ≤ _; omega) _ (Nat.le_refl _)).1 (by rw [← bytesV_N]; omega)
  rw [cutB_all] at hp hq hst
  rw [← bytesV_N] at hst
  obtain ⟨hst, hvl⟩ := hst
  have hK : psK (bytesV nm l m) = l.length := by unfold psK; rw [hq]; show ((l.length : Nat) : Int).toNat = _; omega
  have hvl' : ∀ j, j < 2 * l.length + 9 → vlR (bytesV nm l m) (psC (bytesV nm l m)).2.1 (psC (bytesV nm l m)).2.2 j = nsP l m j := by
    rw [hq]; exact hvl
  have hL : psL (bytesV nm l m) = l := by
    apply kn_ext (by rw [psL_len, hK])
    intro i hi
    rw [psL_len, hK] at hi
    have hx := psL_x (bytesV nm l m) i (by omega)
    rw [hvl' _ (by omega), hvl' _ (by omega)] at hx
    have e1 : nsP l m (2 * i) = kx l i := by
      unfold nsP
      rw [if_pos (by omega), if_pos (by omega), show 2 * i / 2 = i by omega]
    have e2 : nsP l m (2 * i + 1) = ky l i := by
      unfold nsP
      rw [if_pos (by omega), if_neg (by omega), show (2 * i + 1) / 2 = i by omega]
    rw [e1, e2] at hx
    exact hx
  have hM : psMn (bytesV nm l m) 9 = m := by
    funext k
    unfold psMn
    by_cases hk9 : k < 9
    · rw [if_pos hk9, hK, hvl' _ (by omega)]
      unfold nsP
      rw [if_neg (by omega), show 2 * l.length + k - 2 * l.length = k by omega]
    · rw [if_neg hk9, hm9 k (by omega)]
  have hN : (psN (bytesV nm l m)).1 = nm := by rw [hp]
  have hst' : stR (bytesV nm l m) (psC (bytesV nm l m)).2.1 (psC (bytesV nm l m)).2.2 (2 * psK (bytesV nm l m) + 9) = ((bytesV nm l m).size, 0) := by
    rw [hq, hK]; exact hst
  have h0 := parse5 (bytesV nm l m) (by rw [hst']) (by rw [hst']; show ¬ (bytesV nm l m).size < (bytesV nm l m).size; omega)
  rw [hN, hL, hM, h] at h0
  refine ⟨h0, ?_, ?_, ?_⟩
  · unfold parseN; rw [if_pos h0, hN]
  · unfold parseL; rw [if_pos h0, hL]
  · unfold parseM; rw [if_pos h0, hM]
end Go.Proofs.Ytlpfepcmpccbeaa.Pt
