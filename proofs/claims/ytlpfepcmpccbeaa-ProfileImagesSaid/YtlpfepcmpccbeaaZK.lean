/-
  Proved: contracts of functions of the program and of the reference, several texts of mine in one; the conditions stand at each theorem.
-/
import Derived.Test.YtlpfepcmpccbeaaZM
import Derived.Test.YtlpfepcmpccbeaaZA
import Derived.Laws.Bits128
import Derived.Lib.ConvBytes
import Derived.Laws.AppendOwn
import Derived.Test.YtlpfepcmpccbeaaZWLast
import Derived.Deep.RegionHeld3
/-
  The reference's element of an inverse: n times 2^32 by d, rounded, if it lies within the limits.
-/
namespace Go.Proofs.Ytlpfepcmpccbeaa.El
open Go.RowKit Go.Proofs.Ytlpfepcmpccbeaa.NM Go.Proofs.Ytlpfepcmpccbeaa.Spec Go.Proofs.YtlpfepcmpccbeaaW.PrintWords Go.Proofs.YtlpfepcmpccbeaaW.PrintMore
set_option linter.unusedVariables false

def elX (n d : Int) : Int := ratioS (n * 65536) d
def elIn (n d : Int) : Prop := -1048576 ≤ elX n d ∧ elX n d ≤ 1048576
instance (n d : Int) : Decidable (elIn n d) := by unfold elIn; infer_instance
theorem mag_scale (n : Int) : mag (n * 65536) = mag n * 65536 := by unfold mag; split <;> split <;> omega
theorem minus_scale (n d : Int) : minusB (n * 65536) d = minusB n d := by
  unfold minusB
  have : decide (n * 65536 < 0) = decide (n < 0) := by by_cases h : n < 0 <;> simp [h] <;> omega
  rw [this]
theorem el_mag {n d q r : Int} (hd : d ≠ 0) (h : RI (mag n) (mag d) 32 q r) (h0 : 0 ≤ r) (h1 : r < mag d) :
    elX n d = sat (if minusB n d then -(if mag d - r < r then q + 1 else q) else (if mag d - r ≤ r then q + 1 else q)) := by
  unfold elX
  unfold RI at h
  rw [ratioS_mag hd (q := q) (r := r) (by rw [mag_scale, Int.mul_assoc]; exact h) h0 h1, minus_scale]
theorem el_fin {n d q r : Int} (hd : d ≠ 0) (h : RI (mag n) (mag d) 32 q r) (h0 : 0 ≤ r) (h1 : r < mag d) (hq0 : 0 ≤ q) (hq : q ≤ 2097152) :
    elX n d = (if minusB n d then -(if mag d - r < r then q + 1 else q) else (if mag d - r ≤ r then q + 1 else q)) := by
  rw [el_mag hd h h0 h1]
  unfold sat
  split <;> split <;> omega
theorem el_big {n d q r : Int} {k : Nat} (hd : d ≠ 0) (hk : k ≤ 32) (h : RI (mag n) (mag d) k q r) (h0 : 0 ≤ r) (h1 : r < mag d) (hq : 2097152 < q) : ¬ elIn n d := by
  have hD : 1 ≤ mag d := by unfold mag; split <;> omega
  obtain ⟨Q, R, hQ, hR0, hR1, hge⟩ : ∃ Q R, RI (mag n) (mag d) 32 Q R ∧ 0 ≤ R ∧ R < mag d ∧ q ≤ Q := by
    have go : ∀ (e j : Nat) (q r : Int), RI (mag n) (mag d) j q r → 0 ≤ r → r < mag d → 0 ≤ q → ∃ Q R, RI (mag n) (mag d) (j + e) Q R ∧ 0 ≤ R ∧ R < mag d ∧ q ≤ Q := by
      intro e
      induction e with
      | zero => intro j q r h h0 h1 hq; exact ⟨q, r, h, h0, h1, by omega⟩
      | succ e ih =>
        intro j q r h h0 h1 hq
        by_cases hge : mag d ≤ 2 * r
        · obtain ⟨Q, R, a, b, c, d'⟩ := ih (j + 1) (2 * q + 1) (2 * r - mag d) (ri_high h) (by omega) (by omega) (by omega)
          exact ⟨Q, R, by rw [show j + (e + 1) = j + 1 + e by omega]; exact a, b, c, by omega⟩
        · obtain ⟨Q, R, a, b, c, d'⟩ := ih (j + 1) (2 * q) (2 * r) (ri_low h) (by omega) (by omega) (by omega)
          exact ⟨Q, R, by rw [show j + (e + 1) = j + 1 + e by omega]; exact a, b, c, by omega⟩
    obtain ⟨Q, R, a, b, c, d'⟩ := go (32 - k) k q r h h0 h1 (by omega)
    exact ⟨Q, R, by rw [show k + (32 - k) = 32 by omega] at a; exact a, b, c, d'⟩
  unfold elIn
  rw [el_mag hd hQ hR0 hR1]
  unfold sat
  split <;> split <;> omega
def elB (n d : Int) : Bool := decide (elIn n d)
def elV (n d : Int) : Int := if elIn n d then elX n d else 0
theorem el_no {n d : Int} (h : ¬ elIn n d) : elV n d = 0 ∧ elB n d = false := by unfold elV elB; simp [h]
theorem el_yes {n d x : Int} (hx : elX n d = x) (h : -1048576 ≤ x ∧ x ≤ 1048576) : elV n d = x ∧ elB n d = true := by
  have : elIn n d := by unfold elIn; rw [hx]; exact h
  unfold elV elB; simp [this, hx]
theorem el_out {n d x : Int} (hx : elX n d = x) (h : ¬ (-1048576 ≤ x ∧ x ≤ 1048576)) : elV n d = 0 ∧ elB n d = false :=
  el_no (by unfold elIn; rw [hx]; exact h)
theorem ret_el {x y : Int} {b c : Bool} (h : x = y) (h' : b = c) : Ending.returned (.tuple #[.int .i64 x, .bool b]) = .returned (.tuple #[.int .i64 y, .bool c]) := by rw [h, h']

set_option maxRecDepth 20000 in
set_option maxHeartbeats 2000000 in
theorem element_pp (n d : Int) (w : World) (hn : -4611686018427387904 ≤ n ∧ n ≤ 4611686018427387904) (hd : -6917529027641081856 ≤ d ∧ d ≤ 6917529027641081856) (hz : d ≠ 0) (hna : ¬ n < 0) (hnb : ¬ d < 0) :
    Calls Try.prog 82 #[.int .i64 n, .int .i64 d] w fun e w' => e = .returned (.tuple #[.int .i64 (elV n d), .bool (elB n d)]) ∧ Drawn0 w w' := by
  have hmB : minusB n d = false := by simp [minusB, hna, hnb]
  have hst := ri_start (mag n) (mag d)
  have hfin := fun (q r : Int) (h : RI (mag n) (mag d) 32 q r) => el_fin hz h
  have hbig := fun (k : Nat) (q r : Int) (h : RI (mag n) (mag d) k q r) (hk : k ≤ 32) (h0 : 0 ≤ r) (h1 : r < mag d) (hq : 2097152 < q) => el_no (el_big hz hk h h0 h1 hq)
  have hyes := fun (x : Int) (hx : elX n d = x) => el_yes hx
  have hno := fun (x : Int) (hx : elX n d = x) => el_out hx
  rw [hmB] at hfin
  have hn0 := mag_nonneg n
  have eN : mag n = n := by unfold mag; simp [hna]
  have eD : mag d = d := by unfold mag; simp [hnb]
  have hd0 : 1 ≤ mag d := by omega
  have hN1 : mag n ≤ 4611686018427387904 := by omega
  have hD1 : mag d ≤ 6917529027641081856 := by omega
  have f2 : IntKind.u64.wrap n = mag n := by rw [wu (by omega) (by omega)]; omega
  have g2 : IntKind.u64.wrap d = mag d := by rw [wu (by omega) (by omega)]; omega
  have hq0 : 0 ≤ mag n / mag d := Int.ediv_nonneg hn0 (by omega)
  have hq1 : mag n / mag d ≤ mag n := Int.ediv_le_self _ hn0
  have hr0 : 0 ≤ mag n % mag d := Int.emod_nonneg _ (by omega)
  have hr1 : mag n % mag d < mag d := Int.emod_lt_of_pos _ (by omega)
  have hz0 : (mag d == 0) = false := by
    have : mag d ≠ 0 := by omega
    simpa using this
  generalize elV n d = V at *
  generalize elB n d = bb at *
  generalize elX n d = X at *
  generalize mag n = N at *
  generalize mag d = D at *
  have HST := Lib.hid hst
  have HFIN := Lib.hid hfin
  have HBIG := Lib.hid hbig
  have HYES := Lib.hid hyes
  have HNO := Lib.hid hno
  clear hst hfin hbig hyes hno eN eD hmB
  obtain ⟨hn1, hn2⟩ := hn
  obtain ⟨hd1, hd2⟩ := hd
  go_enter Try.func82, Try.ntmps82
  go_wp2_with fail
  go_loop [4, 5, 9, 10, 11] (fun _ _ v9 v10 v11 => ∃ (k : Nat) (q r : Int), k ≤ 32 ∧ v9 = .int .u64 q ∧ v10 = .int .u64 r ∧ v11 = .int .i64 k ∧ 0 ≤ q ∧ q ≤ 4611686018427387904 ∧ 0 ≤ r ∧ r < D ∧ Hid (RI N D k q r)) (fun _ _ _ _ i => 32 - (intOf i).toNat)
  case atStart => exact ⟨0, N / D, N % D, by omega, by go_num, by go_num, rfl, hq0, by omega, hr0, hr1, HST.out⟩
  case round =>
    obtain ⟨k, q, r, hk, rfl, rfl, rfl, hqa, hqb, hra, hrb, hri⟩ := hrel
    clear hq0 hq1 hr0 hr1 HST hna hnb
    by_cases hbig : 2097152 < q
    · obtain ⟨hV, hB⟩ := HBIG.out k q r hri.out hk hra hrb hbig
      have HV := Lib.hid hV
      have HBB := Lib.hid hB
      clear hV hB HFIN HBIG HYES HNO hri
      by_cases hk32 : k < 32
      · go_wp2
        go_ret2
        exact ⟨ret_el HV.out.symm HBB.out.symm, Drawn0.refl _⟩
      · obtain rfl : k = 32 := by omega
        go_wp2
        go_ret2
        exact ⟨ret_el HV.out.symm HBB.out.symm, Drawn0.refl _⟩
    · by_cases hk32 : k < 32
      · have w1 : IntKind.u64.wrap (q * 2) = q * 2 := wu (by omega) (by omega)
        have w2 : IntKind.u64.wrap (r * 2) = r * 2 := wu (by omega) (by omega)
        by_cases hge : D ≤ r * 2
        · have hri' : Hid (RI N D (k + 1) (q * 2 + 1) (r * 2 - D)) := by rw [Int.mul_comm q 2, Int.mul_comm r 2]; exact ri_high hri.out
          go_wp2
          go_round
          case rel => exact ⟨k + 1, q * 2 + 1, r * 2 - D, by omega, rfl, rfl, by go_num, by omega, by omega, by omega, by omega, hri'⟩
          case measure => simp [intOf]; omega
        · have hri' : Hid (RI N D (k + 1) (q * 2) (r * 2)) := by rw [Int.mul_comm q 2, Int.mul_comm r 2]; exact ri_low hri.out
          go_wp2
          go_round
          case rel => exact ⟨k + 1, q * 2, r * 2, by omega, rfl, rfl, by go_num, by omega, by omega, by omega, by omega, hri'⟩
          case measure => simp [intOf]; omega
      · obtain rfl : k = 32 := by omega
        have hx := HFIN.out q r hri.out hra hrb hqa (by omega)
        simp only [Bool.false_eq_true, if_false] at hx
        have w2 : IntKind.u64.wrap (2 * r) = 2 * r := wu (by omega) (by omega)
        clear HFIN HBIG hri
        by_cases hu : D ≤ 2 * r
        · rw [if_pos (by omega)] at hx
          have hu' : D ≤ 2 * r := hu
          by_cases hl : q + 1 ≤ 1048576
          · obtain ⟨hV, hB⟩ := HYES.out _ hx (by omega)
            have HV := Lib.hid hV
            have HBB := Lib.hid hB
            clear hV hB HYES HNO hx
            go_wp2
            go_ret2
            exact ⟨ret_el HV.out.symm HBB.out.symm, Drawn0.refl _⟩
          · obtain ⟨hV, hB⟩ := HNO.out _ hx (by omega)
            have HV := Lib.hid hV
            have HBB := Lib.hid hB
            clear hV hB HYES HNO hx
            go_wp2
            go_ret2
            exact ⟨ret_el HV.out.symm HBB.out.symm, Drawn0.refl _⟩
        · rw [if_neg (by omega)] at hx
          by_cases hl : q ≤ 1048576
          · obtain ⟨hV, hB⟩ := HYES.out _ hx (by omega)
            have HV := Lib.hid hV
            have HBB := Lib.hid hB
            clear hV hB HYES HNO hx
            go_wp2
            go_ret2
            exact ⟨ret_el HV.out.symm HBB.out.symm, Drawn0.refl _⟩
          · obtain ⟨hV, hB⟩ := HNO.out _ hx (by omega)
            have HV := Lib.hid hV
            have HBB := Lib.hid hB
            clear hV hB HYES HNO hx
            go_wp2
            go_ret2
            exact ⟨ret_el HV.out.symm HBB.out.symm, Drawn0.refl _⟩

set_option maxRecDepth 20000 in
set_option maxHeartbeats 2000000 in
theorem element_pn (n d : Int) (w : World) (hn : -4611686018427387904 ≤ n ∧ n ≤ 4611686018427387904) (hd : -6917529027641081856 ≤ d ∧ d ≤ 6917529027641081856) (hz : d ≠ 0) (hna : ¬ n < 0) (hnb : d < 0) :
    Calls Try.prog 82 #[.int .i64 n, .int .i64 d] w fun e w' => e = .returned (.tuple #[.int .i64 (elV n d), .bool (elB n d)]) ∧ Drawn0 w w' := by
  have hmB : minusB n d = true := by simp [minusB, hna, hnb]
  have hst := ri_start (mag n) (mag d)
  have hfin := fun (q r : Int) (h : RI (mag n) (mag d) 32 q r) => el_fin hz h
  have hbig := fun (k : Nat) (q r : Int) (h : RI (mag n) (mag d) k q r) (hk : k ≤ 32) (h0 : 0 ≤ r) (h1 : r < mag d) (hq : 2097152 < q) => el_no (el_big hz hk h h0 h1 hq)
  have hyes := fun (x : Int) (hx : elX n d = x) => el_yes hx
  have hno := fun (x : Int) (hx : elX n d = x) => el_out hx
  rw [hmB] at hfin
  have hn0 := mag_nonneg n
  have eN : mag n = n := by unfold mag; simp [hna]
  have eD : mag d = -d := by unfold mag; simp [hnb]
  have hd0 : 1 ≤ mag d := by omega
  have hN1 : mag n ≤ 4611686018427387904 := by omega
  have hD1 : mag d ≤ 6917529027641081856 := by omega
  have f2 : IntKind.u64.wrap n = mag n := by rw [wu (by omega) (by omega)]; omega
  have g1 : IntKind.i64.wrap (-d) = -d := IntWalk.i64_in _ (by omega)
  have g2 : IntKind.u64.wrap (-d) = mag d := by rw [wu (by omega) (by omega)]; omega
  have hq0 : 0 ≤ mag n / mag d := Int.ediv_nonneg hn0 (by omega)
  have hq1 : mag n / mag d ≤ mag n := Int.ediv_le_self _ hn0
  have hr0 : 0 ≤ mag n % mag d := Int.emod_nonneg _ (by omega)
  have hr1 : mag n % mag d < mag d := Int.emod_lt_of_pos _ (by omega)
  have hz0 : (mag d == 0) = false := by
    have : mag d ≠ 0 := by omega
    simpa using this
  generalize elV n d = V at *
  generalize elB n d = bb at *
  generalize elX n d = X at *
  generalize mag n = N at *
  generalize mag d = D at *
  have HST := Lib.hid hst
  have HFIN := Lib.hid hfin
  have HBIG := Lib.hid hbig
  have HYES := Lib.hid hyes
  have HNO := Lib.hid hno
  clear hst hfin hbig hyes hno eN eD hmB
  obtain ⟨hn1, hn2⟩ := hn
  obtain ⟨hd1, hd2⟩ := hd
  go_enter Try.func82, Try.ntmps82
  go_wp2_with fail
  go_loop [4, 5, 9, 10, 11] (fun _ _ v9 v10 v11 => ∃ (k : Nat) (q r : Int), k ≤ 32 ∧ v9 = .int .u64 q ∧ v10 = .int .u64 r ∧ v11 = .int .i64 k ∧ 0 ≤ q ∧ q ≤ 4611686018427387904 ∧ 0 ≤ r ∧ r < D ∧ Hid (RI N D k q r)) (fun _ _ _ _ i => 32 - (intOf i).toNat)
  case atStart => exact ⟨0, N / D, N % D, by omega, by go_num, by go_num, rfl, hq0, by omega, hr0, hr1, HST.out⟩
  case round =>
    obtain ⟨k, q, r, hk, rfl, rfl, rfl, hqa, hqb, hra, hrb, hri⟩ := hrel
    clear hq0 hq1 hr0 hr1 HST hna hnb
    by_cases hbig : 2097152 < q
    · obtain ⟨hV, hB⟩ := HBIG.out k q r hri.out hk hra hrb hbig
      have HV := Lib.hid hV
      have HBB := Lib.hid hB
      clear hV hB HFIN HBIG HYES HNO hri
      by_cases hk32 : k < 32
      · go_wp2
        go_ret2
        exact ⟨ret_el HV.out.symm HBB.out.symm, Drawn0.refl _⟩
      · obtain rfl : k = 32 := by omega
        go_wp2
        go_ret2
        exact ⟨ret_el HV.out.symm HBB.out.symm, Drawn0.refl _⟩
    · by_cases hk32 : k < 32
      · have w1 : IntKind.u64.wrap (q * 2) = q * 2 := wu (by omega) (by omega)
        have w2 : IntKind.u64.wrap (r * 2) = r * 2 := wu (by omega) (by omega)
        by_cases hge : D ≤ r * 2
        · have hri' : Hid (RI N D (k + 1) (q * 2 + 1) (r * 2 - D)) := by rw [Int.mul_comm q 2, Int.mul_comm r 2]; exact ri_high hri.out
          go_wp2
          go_round
          case rel => exact ⟨k + 1, q * 2 + 1, r * 2 - D, by omega, rfl, rfl, by go_num, by omega, by omega, by omega, by omega, hri'⟩
          case measure => simp [intOf]; omega
        · have hri' : Hid (RI N D (k + 1) (q * 2) (r * 2)) := by rw [Int.mul_comm q 2, Int.mul_comm r 2]; exact ri_low hri.out
          go_wp2
          go_round
          case rel => exact ⟨k + 1, q * 2, r * 2, by omega, rfl, rfl, by go_num, by omega, by omega, by omega, by omega, hri'⟩
          case measure => simp [intOf]; omega
      · obtain rfl : k = 32 := by omega
        have hx := HFIN.out q r hri.out hra hrb hqa (by omega)
        simp only [if_true] at hx
        have w2 : IntKind.u64.wrap (2 * r) = 2 * r := wu (by omega) (by omega)
        clear HFIN HBIG hri
        by_cases hu : D < 2 * r
        · rw [if_pos (by omega)] at hx
          have hu' : D < 2 * r := hu
          by_cases hl : q + 1 ≤ 1048576
          · obtain ⟨hV, hB⟩ := HYES.out _ hx (by omega)
            have HV := Lib.hid hV
            have HBB := Lib.hid hB
            clear hV hB HYES HNO hx
            go_wp2
            go_ret2
            exact ⟨ret_el HV.out.symm HBB.out.symm, Drawn0.refl _⟩
          · obtain ⟨hV, hB⟩ := HNO.out _ hx (by omega)
            have HV := Lib.hid hV
            have HBB := Lib.hid hB
            clear hV hB HYES HNO hx
            go_wp2
            go_ret2
            exact ⟨ret_el HV.out.symm HBB.out.symm, Drawn0.refl _⟩
        · rw [if_neg (by omega)] at hx
          by_cases hl : q ≤ 1048576
          · obtain ⟨hV, hB⟩ := HYES.out _ hx (by omega)
            have HV := Lib.hid hV
            have HBB := Lib.hid hB
            clear hV hB HYES HNO hx
            go_wp2
            go_ret2
            exact ⟨ret_el HV.out.symm HBB.out.symm, Drawn0.refl _⟩
          · obtain ⟨hV, hB⟩ := HNO.out _ hx (by omega)
            have HV := Lib.hid hV
            have HBB := Lib.hid hB
            clear hV hB HYES HNO hx
            go_wp2
            go_ret2
            exact ⟨ret_el HV.out.symm HBB.out.symm, Drawn0.refl _⟩

set_option maxRecDepth 20000 in
set_option maxHeartbeats 2000000 in
theorem element_np (n d : Int) (w : World) (hn : -4611686018427387904 ≤ n ∧ n ≤ 4611686018427387904) (hd : -6917529027641081856 ≤ d ∧ d ≤ 6917529027641081856) (hz : d ≠ 0) (hna : n < 0) (hnb : ¬ d < 0) :
    Calls Try.prog 82 #[.int .i64 n, .int .i64 d] w fun e w' => e = .returned (.tuple #[.int .i64 (elV n d), .bool (elB n d)]) ∧ Drawn0 w w' := by
  have hmB : minusB n d = true := by simp [minusB, hna, hnb]
  have hst := ri_start (mag n) (mag d)
  have hfin := fun (q r : Int) (h : RI (mag n) (mag d) 32 q r) => el_fin hz h
  have hbig := fun (k : Nat) (q r : Int) (h : RI (mag n) (mag d) k q r) (hk : k ≤ 32) (h0 : 0 ≤ r) (h1 : r < mag d) (hq : 2097152 < q) => el_no (el_big hz hk h h0 h1 hq)
  have hyes := fun (x : Int) (hx : elX n d = x) => el_yes hx
  have hno := fun (x : Int) (hx : elX n d = x) => el_out hx
  rw [hmB] at hfin
  have hn0 := mag_nonneg n
  have eN : mag n = -n := by unfold mag; simp [hna]
  have eD : mag d = d := by unfold mag; simp [hnb]
  have hd0 : 1 ≤ mag d := by omega
  have hN1 : mag n ≤ 4611686018427387904 := by omega
  have hD1 : mag d ≤ 6917529027641081856 := by omega
  have f1 : IntKind.i64.wrap (-n) = -n := IntWalk.i64_in _ (by omega)
  have f2 : IntKind.u64.wrap (-n) = mag n := by rw [wu (by omega) (by omega)]; omega
  have g2 : IntKind.u64.wrap d = mag d := by rw [wu (by omega) (by omega)]; omega
  have hq0 : 0 ≤ mag n / mag d := Int.ediv_nonneg hn0 (by omega)
  have hq1 : mag n / mag d ≤ mag n := Int.ediv_le_self _ hn0
  have hr0 : 0 ≤ mag n % mag d := Int.emod_nonneg _ (by omega)
  have hr1 : mag n % mag d < mag d := Int.emod_lt_of_pos _ (by omega)
  have hz0 : (mag d == 0) = false := by
    have : mag d ≠ 0 := by omega
    simpa using this
  generalize elV n d = V at *
  generalize elB n d = bb at *
  generalize elX n d = X at *
  generalize mag n = N at *
  generalize mag d = D at *
  have HST := Lib.hid hst
  have HFIN := Lib.hid hfin
  have HBIG := Lib.hid hbig
  have HYES := Lib.hid hyes
  have HNO := Lib.hid hno
  clear hst hfin hbig hyes hno eN eD hmB
  obtain ⟨hn1, hn2⟩ := hn
  obtain ⟨hd1, hd2⟩ := hd
  go_enter Try.func82, Try.ntmps82
  go_wp2_with fail
  go_loop [4, 5, 9, 10, 11] (fun _ _ v9 v10 v11 => ∃ (k : Nat) (q r : Int), k ≤ 32 ∧ v9 = .int .u64 q ∧ v10 = .int .u64 r ∧ v11 = .int .i64 k ∧ 0 ≤ q ∧ q ≤ 4611686018427387904 ∧ 0 ≤ r ∧ r < D ∧ Hid (RI N D k q r)) (fun _ _ _ _ i => 32 - (intOf i).toNat)
  case atStart => exact ⟨0, N / D, N % D, by omega, by go_num, by go_num, rfl, hq0, by omega, hr0, hr1, HST.out⟩
  case round =>
    obtain ⟨k, q, r, hk, rfl, rfl, rfl, hqa, hqb, hra, hrb, hri⟩ := hrel
    clear hq0 hq1 hr0 hr1 HST hna hnb
    by_cases hbig : 2097152 < q
    · obtain ⟨hV, hB⟩ := HBIG.out k q r hri.out hk hra hrb hbig
      have HV := Lib.hid hV
      have HBB := Lib.hid hB
      clear hV hB HFIN HBIG HYES HNO hri
      by_cases hk32 : k < 32
      · go_wp2
        go_ret2
        exact ⟨ret_el HV.out.symm HBB.out.symm, Drawn0.refl _⟩
      · obtain rfl : k = 32 := by omega
        go_wp2
        go_ret2
        exact ⟨ret_el HV.out.symm HBB.out.symm, Drawn0.refl _⟩
    · by_cases hk32 : k < 32
      · have w1 : IntKind.u64.wrap (q * 2) = q * 2 := wu (by omega) (by omega)
        have w2 : IntKind.u64.wrap (r * 2) = r * 2 := wu (by omega) (by omega)
        by_cases hge : D ≤ r * 2
        · have hri' : Hid (RI N D (k + 1) (q * 2 + 1) (r * 2 - D)) := by rw [Int.mul_comm q 2, Int.mul_comm r 2]; exact ri_high hri.out
          go_wp2
          go_round
          case rel => exact ⟨k + 1, q * 2 + 1, r * 2 - D, by omega, rfl, rfl, by go_num, by omega, by omega, by omega, by omega, hri'⟩
          case measure => simp [intOf]; omega
        · have hri' : Hid (RI N D (k + 1) (q * 2) (r * 2)) := by rw [Int.mul_comm q 2, Int.mul_comm r 2]; exact ri_low hri.out
          go_wp2
          go_round
          case rel => exact ⟨k + 1, q * 2, r * 2, by omega, rfl, rfl, by go_num, by omega, by omega, by omega, by omega, hri'⟩
          case measure => simp [intOf]; omega
      · obtain rfl : k = 32 := by omega
        have hx := HFIN.out q r hri.out hra hrb hqa (by omega)
        simp only [if_true] at hx
        have w2 : IntKind.u64.wrap (2 * r) = 2 * r := wu (by omega) (by omega)
        clear HFIN HBIG hri
        by_cases hu : D < 2 * r
        · rw [if_pos (by omega)] at hx
          have hu' : D < 2 * r := hu
          by_cases hl : q + 1 ≤ 1048576
          · obtain ⟨hV, hB⟩ := HYES.out _ hx (by omega)
            have HV := Lib.hid hV
            have HBB := Lib.hid hB
            clear hV hB HYES HNO hx
            go_wp2
            go_ret2
            exact ⟨ret_el HV.out.symm HBB.out.symm, Drawn0.refl _⟩
          · obtain ⟨hV, hB⟩ := HNO.out _ hx (by omega)
            have HV := Lib.hid hV
            have HBB := Lib.hid hB
            clear hV hB HYES HNO hx
            go_wp2
            go_ret2
            exact ⟨ret_el HV.out.symm HBB.out.symm, Drawn0.refl _⟩
        · rw [if_neg (by omega)] at hx
          by_cases hl : q ≤ 1048576
          · obtain ⟨hV, hB⟩ := HYES.out _ hx (by omega)
            have HV := Lib.hid hV
            have HBB := Lib.hid hB
            clear hV hB HYES HNO hx
            go_wp2
            go_ret2
            exact ⟨ret_el HV.out.symm HBB.out.symm, Drawn0.refl _⟩
          · obtain ⟨hV, hB⟩ := HNO.out _ hx (by omega)
            have HV := Lib.hid hV
            have HBB := Lib.hid hB
            clear hV hB HYES HNO hx
            go_wp2
            go_ret2
            exact ⟨ret_el HV.out.symm HBB.out.symm, Drawn0.refl _⟩

set_option maxRecDepth 20000 in
set_option maxHeartbeats 2000000 in
theorem element_nn (n d : Int) (w : World) (hn : -4611686018427387904 ≤ n ∧ n ≤ 4611686018427387904) (hd : -6917529027641081856 ≤ d ∧ d ≤ 6917529027641081856) (hz : d ≠ 0) (hna : n < 0) (hnb : d < 0) :
    Calls Try.prog 82 #[.int .i64 n, .int .i64 d] w fun e w' => e = .returned (.tuple #[.int .i64 (elV n d), .bool (elB n d)]) ∧ Drawn0 w w' := by
  have hmB : minusB n d = false := by simp [minusB, hna, hnb]
  have hst := ri_start (mag n) (mag d)
  have hfin := fun (q r : Int) (h : RI (mag n) (mag d) 32 q r) => el_fin hz h
  have hbig := fun (k : Nat) (q r : Int) (h : RI (mag n) (mag d) k q r) (hk : k ≤ 32) (h0 : 0 ≤ r) (h1 : r < mag d) (hq : 2097152 < q) => el_no (el_big hz hk h h0 h1 hq)
  have hyes := fun (x : Int) (hx : elX n d = x) => el_yes hx
  have hno := fun (x : Int) (hx : elX n d = x) => el_out hx
  rw [hmB] at hfin
  have hn0 := mag_nonneg n
  have eN : mag n = -n := by unfold mag; simp [hna]
  have eD : mag d = -d := by unfold mag; simp [hnb]
  have hd0 : 1 ≤ mag d := by omega
  have hN1 : mag n ≤ 4611686018427387904 := by omega
  have hD1 : mag d ≤ 6917529027641081856 := by omega
  have f1 : IntKind.i64.wrap (-n) = -n := IntWalk.i64_in _ (by omega)
  have f2 : IntKind.u64.wrap (-n) = mag n := by rw [wu (by omega) (by omega)]; omega
  have g1 : IntKind.i64.wrap (-d) = -d := IntWalk.i64_in _ (by omega)
  have g2 : IntKind.u64.wrap (-d) = mag d := by rw [wu (by omega) (by omega)]; omega
  have hq0 : 0 ≤ mag n / mag d := Int.ediv_nonneg hn0 (by omega)
  have hq1 : mag n / mag d ≤ mag n := Int.ediv_le_self _ hn0
  have hr0 : 0 ≤ mag n % mag d := Int.emod_nonneg _ (by omega)
  have hr1 : mag n % mag d < mag d := Int.emod_lt_of_pos _ (by omega)
  have hz0 : (mag d == 0) = false := by
    have : mag d ≠ 0 := by omega
    simpa using this
  generalize elV n d = V at *
  generalize elB n d = bb at *
  generalize elX n d = X at *
  generalize mag n = N at *
  generalize mag d = D at *
  have HST := Lib.hid hst
  have HFIN := Lib.hid hfin
  have HBIG := Lib.hid hbig
  have HYES := Lib.hid hyes
  have HNO := Lib.hid hno
  clear hst hfin hbig hyes hno eN eD hmB
  obtain ⟨hn1, hn2⟩ := hn
  obtain ⟨hd1, hd2⟩ := hd
  go_enter Try.func82, Try.ntmps82
  go_wp2_with fail
  go_loop [4, 5, 9, 10, 11] (fun _ _ v9 v10 v11 => ∃ (k : Nat) (q r : Int), k ≤ 32 ∧ v9 = .int .u64 q ∧ v10 = .int .u64 r ∧ v11 = .int .i64 k ∧ 0 ≤ q ∧ q ≤ 4611686018427387904 ∧ 0 ≤ r ∧ r < D ∧ Hid (RI N D k q r)) (fun _ _ _ _ i => 32 - (intOf i).toNat)
  case atStart => exact ⟨0, N / D, N % D, by omega, by go_num, by go_num, rfl, hq0, by omega, hr0, hr1, HST.out⟩
  case round =>
    obtain ⟨k, q, r, hk, rfl, rfl, rfl, hqa, hqb, hra, hrb, hri⟩ := hrel
    clear hq0 hq1 hr0 hr1 HST hna hnb
    by_cases hbig : 2097152 < q
    · obtain ⟨hV, hB⟩ := HBIG.out k q r hri.out hk hra hrb hbig
      have HV := Lib.hid hV
      have HBB := Lib.hid hB
      clear hV hB HFIN HBIG HYES HNO hri
      by_cases hk32 : k < 32
      · go_wp2
        go_ret2
        exact ⟨ret_el HV.out.symm HBB.out.symm, Drawn0.refl _⟩
      · obtain rfl : k = 32 := by omega
        go_wp2
        go_ret2
        exact ⟨ret_el HV.out.symm HBB.out.symm, Drawn0.refl _⟩
    · by_cases hk32 : k < 32
      · have w1 : IntKind.u64.wrap (q * 2) = q * 2 := wu (by omega) (by omega)
        have w2 : IntKind.u64.wrap (r * 2) = r * 2 := wu (by omega) (by omega)
        by_cases hge : D ≤ r * 2
        · have hri' : Hid (RI N D (k + 1) (q * 2 + 1) (r * 2 - D)) := by rw [Int.mul_comm q 2, Int.mul_comm r 2]; exact ri_high hri.out
          go_wp2
          go_round
          case rel => exact ⟨k + 1, q * 2 + 1, r * 2 - D, by omega, rfl, rfl, by go_num, by omega, by omega, by omega, by omega, hri'⟩
          case measure => simp [intOf]; omega
        · have hri' : Hid (RI N D (k + 1) (q * 2) (r * 2)) := by rw [Int.mul_comm q 2, Int.mul_comm r 2]; exact ri_low hri.out
          go_wp2
          go_round
          case rel => exact ⟨k + 1, q * 2, r * 2, by omega, rfl, rfl, by go_num, by omega, by omega, by omega, by omega, hri'⟩
          case measure => simp [intOf]; omega
      · obtain rfl : k = 32 := by omega
        have hx := HFIN.out q r hri.out hra hrb hqa (by omega)
        simp only [Bool.false_eq_true, if_false] at hx
        have w2 : IntKind.u64.wrap (2 * r) = 2 * r := wu (by omega) (by omega)
        clear HFIN HBIG hri
        by_cases hu : D ≤ 2 * r
        · rw [if_pos (by omega)] at hx
          have hu' : D ≤ 2 * r := hu
          by_cases hl : q + 1 ≤ 1048576
          · obtain ⟨hV, hB⟩ := HYES.out _ hx (by omega)
            have HV := Lib.hid hV
            have HBB := Lib.hid hB
            clear hV hB HYES HNO hx
            go_wp2
            go_ret2
            exact ⟨ret_el HV.out.symm HBB.out.symm, Drawn0.refl _⟩
          · obtain ⟨hV, hB⟩ := HNO.out _ hx (by omega)
            have HV := Lib.hid hV
            have HBB := Lib.hid hB
            clear hV hB HYES HNO hx
            go_wp2
            go_ret2
            exact ⟨ret_el HV.out.symm HBB.out.symm, Drawn0.refl _⟩
        · rw [if_neg (by omega)] at hx
          by_cases hl : q ≤ 1048576
          · obtain ⟨hV, hB⟩ := HYES.out _ hx (by omega)
            have HV := Lib.hid hV
            have HBB := Lib.hid hB
            clear hV hB HYES HNO hx
            go_wp2
            go_ret2
            exact ⟨ret_el HV.out.symm HBB.out.symm, Drawn0.refl _⟩
          · obtain ⟨hV, hB⟩ := HNO.out _ hx (by omega)
            have HV := Lib.hid hV
            have HBB := Lib.hid hB
            clear hV hB HYES HNO hx
            go_wp2
            go_ret2
            exact ⟨ret_el HV.out.symm HBB.out.symm, Drawn0.refl _⟩

theorem element_any (n d : Int) (w : World) (hn : -4611686018427387904 ≤ n ∧ n ≤ 4611686018427387904) (hd : -6917529027641081856 ≤ d ∧ d ≤ 6917529027641081856) (hz : d ≠ 0) :
    Calls Try.prog 82 #[.int .i64 n, .int .i64 d] w fun e w' => e = .returned (.tuple #[.int .i64 (elV n d), .bool (elB n d)]) ∧ Drawn0 w w' := by
  by_cases h1 : n < 0
  · by_cases h2 : d < 0
    · exact element_nn n d w hn hd hz h1 h2
    · exact element_np n d w hn hd hz h1 h2
  · by_cases h2 : d < 0
    · exact element_pn n d w hn hd hz h1 h2
    · exact element_pp n d w hn hd hz h1 h2
end Go.Proofs.Ytlpfepcmpccbeaa.El
/-
  Curves: plain laws; the printed functions of package curve and of its reference come to them.
-/
namespace Go.Proofs.Ytlpfepcmpccbeaa.Cv
open Go.RowKit Go.Proofs.Ytlpfepcmpccbeaa.NM Go.Proofs.Ytlpfepcmpccbeaa.PNum Go.Proofs.YtlpfepcmpccbeaaW.PrintWords Go.Proofs.YtlpfepcmpccbeaaW.PrintLast Go.Proofs.YtlpfepcmpccbeaaW.PrintMore
set_option linter.unusedVariables false

abbrev Kn := S72
def kx (l : List Kn) (i : Nat) : Int := (l.getD i z72).f0
def ky (l : List Kn) (i : Nat) : Int := (l.getD i z72).f1
theorem rdx (l : List Kn) (i : Nat) : (rd_T72 l (i : Int)).f0 = kx l i := (Eq.refl _).trans rfl
theorem rdy (l : List Kn) (i : Nat) : (rd_T72 l (i : Int)).f1 = ky l i := (Eq.refl _).trans rfl
def unitI (x : Int) : Prop := 0 ≤ x ∧ x ≤ 65535
instance (x : Int) : Decidable (unitI x) := by unfold unitI; infer_instance

def checkFrom (l : List Kn) : Nat → Nat → Int
  | 0, _ => 0
  | n + 1, i => if ¬ (unitI (kx l i) ∧ unitI (ky l i)) then 2 else if 0 < i ∧ kx l i ≤ kx l (i - 1) then 24 else checkFrom l n (i + 1)
def checkK (l : List Kn) : Int := if l.length < 2 then 1 else if 16 < l.length then 3 else checkFrom l l.length 0
def risingFrom (l : List Kn) : Nat → Nat → Bool
  | 0, _ => true
  | n + 1, i => if ky l i ≤ ky l (i - 1) then false else risingFrom l n (i + 1)
def ends (l : List Kn) : Prop := (kx l 0 = 0 ∧ ky l 0 = 0) ∧ kx l (l.length - 1) = 65535 ∧ ky l (l.length - 1) = 65535
instance (l : List Kn) : Decidable (ends l) := by unfold ends; infer_instance
def risingK (l : List Kn) : Bool := if checkK l = 0 ∧ ends l then risingFrom l (l.length - 1) 1 else false
def swapK (k : Kn) : Kn := ⟨k.f1, k.f0⟩
def invK (l : List Kn) : List Kn := if checkK l = 0 ∧ risingK l = true then l.map swapK else []
def invE (l : List Kn) : Int := if checkK l = 0 then (if risingK l = true then 0 else 1) else checkK l

theorem check_l0 (l : List Kn) (hl : l.length ≤ 16) : ∀ (n i k : Nat), i + n = l.length → 2 * n + 1 ≤ k → curve_Check.l0 k l l (l.length : Int) (i : Int) = some (checkFrom l n i)
  | 0, i, k, hi, hk => by
    obtain ⟨k, rfl⟩ : ∃ k', k = k' + 1 := ⟨k - 1, by omega⟩
    rw [curve_Check.l0, if_neg (by omega)]
    rfl
  | n + 1, i, k, hi, hk => by
    obtain ⟨k, rfl⟩ : ∃ k', k = k' + 1 + 1 := ⟨k - 2, by omega⟩
    have ih := check_l0 l hl n (i + 1) k (by omega) (by omega)
    rw [curve_Check.l0, if_pos (by omega), if_pos (by omega), if_pos (by omega)]
    simp only [rdx, rdy, checkFrom, curve_Check.j1, mn_min, mx_max]
    rw [w64' (x := (i : Int) - 1) (by omega) (by omega), w64' (x := (i : Int) + 1) (by omega) (by omega)]
    have ih' : curve_Check.l0 k l l (l.length : Int) ((i : Int) + 1) = some (checkFrom l n (i + 1)) := by
      rw [← ih]; congr 1
    rw [ih']
    by_cases hu : unitI (kx l i) ∧ unitI (ky l i)
    · rw [if_neg (show ¬ ¬ (unitI (kx l i) ∧ unitI (ky l i)) by simpa using hu)]
      unfold unitI at hu
      rw [if_neg (by omega)]
      have hd : ¬ max (kx l i) (ky l i) > 65535 := by omega
      simp only [hd, decide_false, Bool.false_eq_true, if_false]
      by_cases h0 : 0 < i
      · have hr := rdx l (i - 1)
        rw [show ((i - 1 : Nat) : Int) = (i : Int) - 1 by omega] at hr
        rw [if_pos (show (i : Int) > 0 by omega), if_pos (by omega), if_pos (by omega), hr]
        by_cases hle : kx l i ≤ kx l (i - 1)
        · simp [hle, h0]
        · simp [hle]
      · rw [if_neg (show ¬ (i : Int) > 0 by omega), if_neg (fun h => h0 h.1)]
    · rw [if_pos (show ¬ (unitI (kx l i) ∧ unitI (ky l i)) from hu)]
      unfold unitI at hu
      by_cases hm : min (kx l i) (ky l i) < 0
      · rw [if_pos hm]; simp
      · rw [if_neg hm]
        have hd : max (kx l i) (ky l i) > 65535 := by omega
        simp only [hd, decide_true, if_true]
theorem check_eq (l : List Kn) (k : Nat) (hk : 33 ≤ k) : curve_Check.f k l = some (checkK l) := by
  unfold curve_Check.f checkK
  by_cases h1 : l.length < 2
  · rw [if_pos (by omega), if_pos h1]
  · rw [if_neg (by omega), if_neg h1]
    by_cases h2 : 16 < l.length
    · rw [if_pos (by omega), if_pos h2]
    · rw [if_neg (by omega), if_neg h2]
      exact check_l0 l (by omega) l.length 0 k (by omega) (by omega)

theorem unit_eq (x : Int) : imageeditorref07_unit.f x = some (decide (unitI x)) := by
  unfold imageeditorref07_unit.f unitI
  by_cases h : x ≥ 0
  · rw [if_pos h]; congr 1; simp [show 0 ≤ x from h]
  · rw [if_neg h]; congr 1; simp [show ¬ 0 ≤ x by omega]
theorem rcheck_l0 (l : List Kn) (hl : l.length ≤ 16) : ∀ (n i k : Nat), i + n = l.length → 2 * n + 1 ≤ k → imageeditorref07_Check.l0 k l (i : Int) = some (checkFrom l n i)
  | 0, i, k, hi, hk => by
    obtain ⟨k, rfl⟩ : ∃ k', k = k' + 1 := ⟨k - 1, by omega⟩
    rw [imageeditorref07_Check.l0, if_neg (by omega)]
    rfl
  | n + 1, i, k, hi, hk => by
    obtain ⟨k, rfl⟩ : ∃ k', k = k' + 1 + 1 := ⟨k - 2, by omega⟩
    have ih := rcheck_l0 l hl n (i + 1) k (by omega) (by omega)
    rw [imageeditorref07_Check.l0, if_pos (by omega), if_pos (by omega)]
    simp only [rdx, rdy, checkFrom, imageeditorref07_Check.j1, unit_eq, Option.bind_some]
    rw [w64' (x := (i : Int) - 1) (by omega) (by omega), w64' (x := (i : Int) + 1) (by omega) (by omega)]
    have ih' : imageeditorref07_Check.l0 k l ((i : Int) + 1) = some (checkFrom l n (i + 1)) := by
      rw [← ih]; congr 1
    rw [ih']
    have hr := rdx l (i - 1)
    by_cases hu : unitI (kx l i)
    · by_cases hv : unitI (ky l i)
      · simp only [hu, hv, decide_true, if_true, Bool.not_true, Bool.false_eq_true, if_false, and_self, not_true_eq_false]
        by_cases h0 : 0 < i
        · rw [show ((i - 1 : Nat) : Int) = (i : Int) - 1 by omega] at hr
          rw [if_pos (show (i : Int) > 0 by omega), if_pos (by omega), if_pos (by omega), if_pos (by omega), if_pos (by omega), hr]
          by_cases hle : kx l i ≤ kx l (i - 1)
          · simp [hle, h0]
          · simp [hle]
        · rw [if_neg (show ¬ (i : Int) > 0 by omega), if_neg (fun h => h0 h.1)]
      · simp [hu, hv]
    · simp [hu]
theorem rcheck_eq (l : List Kn) (k : Nat) (hk : 33 ≤ k) : imageeditorref07_Check.f k l = some (checkK l) := by
  unfold imageeditorref07_Check.f checkK
  by_cases h1 : l.length < 2
  · rw [if_pos (by omega), if_pos h1]
  · rw [if_neg (by omega), if_neg h1]
    by_cases h2 : 16 < l.length
    · rw [if_pos (by omega), if_pos h2]
    · rw [if_neg (by omega), if_neg h2]
      exact rcheck_l0 l (by omega) l.length 0 k (by omega) (by omega)

/-- what a right curve is -/
theorem checkFrom_zero {l : List Kn} : ∀ (n i : Nat), checkFrom l n i = 0 → ∀ j, i ≤ j → j < i + n → (unitI (kx l j) ∧ unitI (ky l j)) ∧ (0 < j → kx l (j - 1) < kx l j)
  | 0, i, _ => fun j h1 h2 => by omega
  | n + 1, i, h => by
    simp only [checkFrom] at h
    by_cases hu : unitI (kx l i) ∧ unitI (ky l i)
    · rw [if_neg (by simpa using hu)] at h
      by_cases ho : 0 < i ∧ kx l i ≤ kx l (i - 1)
      · rw [if_pos ho] at h; omega
      · rw [if_neg ho] at h
        have ih := checkFrom_zero n (i + 1) h
        intro j h1 h2
        by_cases he : j = i
        · subst he
          exact ⟨hu, fun h0 => by
            have := fun h3 => ho ⟨h0, h3⟩
            omega⟩
        · exact ih j (by omega) (by omega)
    · rw [if_pos (by simpa using hu)] at h; omega
theorem checkK_zero {l : List Kn} (h : checkK l = 0) : 2 ≤ l.length ∧ l.length ≤ 16 ∧ ∀ j, j < l.length → (unitI (kx l j) ∧ unitI (ky l j)) ∧ (0 < j → kx l (j - 1) < kx l j) := by
  unfold checkK at h
  by_cases h1 : l.length < 2
  · rw [if_pos h1] at h; omega
  · rw [if_neg h1] at h
    by_cases h2 : 16 < l.length
    · rw [if_pos h2] at h; omega
    · rw [if_neg h2] at h
      exact ⟨by omega, by omega, fun j hj => checkFrom_zero _ _ h j (by omega) (by omega)⟩

theorem rising_l0 (l : List Kn) (hl : l.length ≤ 16) : ∀ (n i k : Nat), 1 ≤ i → i + n = l.length → n + 1 ≤ k → curve_Rising.l0 k l (i : Int) = some (risingFrom l n i)
  | 0, i, k, h1, hi, hk => by
    obtain ⟨k, rfl⟩ : ∃ k', k = k' + 1 := ⟨k - 1, by omega⟩
    rw [curve_Rising.l0, if_neg (by omega)]
    rfl
  | n + 1, i, k, h1, hi, hk => by
    obtain ⟨k, rfl⟩ : ∃ k', k = k' + 1 := ⟨k - 1, by omega⟩
    have ih := rising_l0 l hl n (i + 1) k (by omega) (by omega) (by omega)
    have hr := rdy l (i - 1)
    rw [show ((i - 1 : Nat) : Int) = (i : Int) - 1 by omega] at hr
    rw [curve_Rising.l0, if_pos (by omega), if_pos (by omega), w64' (x := (i : Int) - 1) (by omega) (by omega), if_pos (by omega), if_pos (by omega), w64' (x := (i : Int) + 1) (by omega) (by omega), hr, rdy,
      show (i : Int) + 1 = ((i + 1 : Nat) : Int) by omega, ih]
    simp only [risingFrom]
    split <;> rfl
theorem rising_eq (l : List Kn) (k : Nat) (hk : 33 ≤ k) : curve_Rising.f k l = some (risingK l) := by
  unfold curve_Rising.f risingK
  rw [check_eq l k hk]
  simp only [Option.bind_some]
  obtain ⟨k, rfl⟩ : ∃ k', k = k' + 1 := ⟨k - 1, by omega⟩
  by_cases hc : checkK l = 0
  · obtain ⟨h2, h16, _⟩ := checkK_zero hc
    have hr := rdx l (l.length - 1)
    have hs := rdy l (l.length - 1)
    rw [show ((l.length - 1 : Nat) : Int) = (l.length : Int) - 1 by omega] at hr hs
    have hr0 : (rd_T72 l 0).f0 = kx l 0 := rfl
    have hs0 : (rd_T72 l 0).f1 = ky l 0 := rfl
    rw [if_pos hc, if_pos (by omega), w64' (x := (l.length : Int) - 1) (by omega) (by omega), if_pos (show (0 : Int) ≤ (l.length : Int) - 1 by omega), if_pos (show (l.length : Int) - 1 < (l.length : Int) by omega), hr, hs, hr0, hs0]
    have hl := rising_l0 l h16 (l.length - 1) 1 k (by omega) (by omega) (by omega)
    simp only [curve_Rising.j0]
    rw [show ((1 : Nat) : Int) = 1 from rfl] at hl
    rw [hl]
    unfold ends
    by_cases e1 : kx l 0 = 0 <;> by_cases e2 : ky l 0 = 0 <;> by_cases e3 : kx l (l.length - 1) = 65535 <;> by_cases e4 : ky l (l.length - 1) = 65535 <;> simp [hc, e1, e2, e3, e4]
  · rw [if_neg hc, if_neg (fun h => hc h.1)]
    simp [curve_Rising.j0]
theorem rrising_l0 (l : List Kn) : ∀ (k : Nat) (i : Int), imageeditorref07_Rising.l0 k l i = curve_Rising.l0 k l i
  | 0, i => by rw [imageeditorref07_Rising.l0, curve_Rising.l0]
  | k + 1, i => by rw [imageeditorref07_Rising.l0, curve_Rising.l0, rrising_l0 l k]
theorem rrising_eq (l : List Kn) (k : Nat) (hk : 33 ≤ k) : imageeditorref07_Rising.f k l = some (risingK l) := by
  rw [← rising_eq l k hk]
  unfold imageeditorref07_Rising.f curve_Rising.f
  rw [rcheck_eq l k hk, check_eq l k hk]
  have : ∀ b, imageeditorref07_Rising.j0 k l b = curve_Rising.j0 k l b := by
    intro b
    cases k with
    | zero => rfl
    | succ k => simp only [imageeditorref07_Rising.j0, curve_Rising.j0, rrising_l0]
  simp only [this]
end Go.Proofs.Ytlpfepcmpccbeaa.Cv
/-
  Curves: the value of a curve, its inverse, == of two curves.
-/
namespace Go.Proofs.Ytlpfepcmpccbeaa.Cv
open Go.RowKit Go.Proofs.Ytlpfepcmpccbeaa.NM Go.Proofs.Ytlpfepcmpccbeaa.PNum Go.Proofs.YtlpfepcmpccbeaaW.PrintWords Go.Proofs.YtlpfepcmpccbeaaW.PrintLast Go.Proofs.YtlpfepcmpccbeaaW.PrintMore
set_option linter.unusedVariables false

theorem upO {α : Type} {f : Nat → Option α} (h : ∀ k, LeO (f k) (f (k + 1))) {r : α} {k0 : Nat} (h0 : f k0 = some r) : ∀ d, f (k0 + d) = some r
  | 0 => h0
  | d + 1 => h _ _ (upO h h0 d)
theorem upTo {α : Type} {f : Nat → Option α} (h : ∀ k, LeO (f k) (f (k + 1))) {r : α} {k0 k : Nat} (h0 : f k0 = some r) (hk : k0 ≤ k) : f k = some r := by
  have := upO h h0 (k - k0)
  rwa [show k0 + (k - k0) = k by omega] at this

def idxFrom (l : List Kn) (x : Int) : Nat → Nat → Nat
  | 0, i => i
  | n + 1, i => if kx l i ≤ x then idxFrom l x n (i + 1) else i
def betw (l : List Kn) (x : Int) (i : Nat) : Int :=
  if i = 0 then ky l 0 else if i = l.length then ky l (i - 1) else ky l (i - 1) + divS ((ky l i - ky l (i - 1)) * (x - kx l (i - 1))) (kx l i - kx l (i - 1))
def atK (l : List Kn) (x : Int) : Int := if checkK l = 0 then betw l (clampS x 0 65535) (idxFrom l (clampS x 0 65535) l.length 0) else clampS x 0 65535

theorem divS_small (a b : Int) (hb : 1 ≤ b) : (divS a b).natAbs ≤ a.natAbs + 2 := by
  unfold divS
  rw [if_neg (by omega), if_neg (by omega)]
  obtain ⟨r, h, hp, _⟩ := fdiv_spec (2 * a + b) (2 * b) (by omega)
  have hp' := hp (by omega)
  generalize (2 * a + b).fdiv (2 * b) = q at *
  have h4 : 2 * b * q = 2 * (b * q) := by grind
  have h5 : (b * q).natAbs = b.natAbs * q.natAbs := Int.natAbs_mul b q
  have h6 : b.natAbs * q.natAbs ≤ a.natAbs + 2 * b.natAbs := by omega
  obtain ⟨c, hc⟩ : ∃ c : Nat, b.natAbs = c + 1 := ⟨b.natAbs - 1, by omega⟩
  rw [hc] at h6
  by_cases hq : q.natAbs ≤ a.natAbs + 2
  · exact hq
  · exfalso
    obtain ⟨d, hd⟩ : ∃ d : Nat, q.natAbs = a.natAbs + 3 + d := ⟨q.natAbs - (a.natAbs + 3), by omega⟩
    rw [hd] at h6
    have : (c + 1) * (a.natAbs + 3 + d) = c * a.natAbs + 3 * c + c * d + a.natAbs + 3 + d := by grind
    omega
theorem mul_unit {x y : Int} (hx : -65535 ≤ x ∧ x ≤ 65535) (hy : -65535 ≤ y ∧ y ≤ 65535) : -4294836225 ≤ x * y ∧ x * y ≤ 4294836225 := by
  have h1 : (x * y).natAbs = x.natAbs * y.natAbs := Int.natAbs_mul x y
  have h2 : x.natAbs * y.natAbs ≤ 65535 * 65535 := Nat.mul_le_mul (by omega) (by omega)
  omega

theorem between_j1 (l : List Kn) (hc : checkK l = 0) (x : Int) (hx : unitI x) (i : Nat) (hi : i ≤ l.length) : ∃ k0, ∀ k, k0 ≤ k → curve_between.j1 k l x (i : Int) = some (betw l x i) := by
  obtain ⟨h2, h16, hall⟩ := checkK_zero hc
  unfold betw
  by_cases h0 : i = 0
  · refine ⟨1, fun k hk => ?_⟩
    obtain ⟨k, rfl⟩ : ∃ k', k = k' + 1 := ⟨k - 1, by omega⟩
    subst h0
    rw [curve_between.j1, if_pos (by omega), if_pos (by omega), if_pos rfl]
    rfl
  · have hry := rdy l (i - 1)
    have hrx := rdx l (i - 1)
    rw [show ((i - 1 : Nat) : Int) = (i : Int) - 1 by omega] at hry hrx
    by_cases hl : i = l.length
    · refine ⟨1, fun k hk => ?_⟩
      obtain ⟨k, rfl⟩ : ∃ k', k = k' + 1 := ⟨k - 1, by omega⟩
      rw [curve_between.j1, if_neg (by omega), w64' (x := (i : Int) - 1) (by omega) (by omega), if_pos (by omega), if_pos (by omega), if_pos (by omega), if_neg h0, if_pos hl, hry]
    · have ha := (hall i (by omega)).1
      have hb := (hall (i - 1) (by omega)).1
      have ho := (hall i (by omega)).2 (by omega)
      unfold unitI at ha hb hx
      have hm := mul_unit (x := ky l i - ky l (i - 1)) (y := x - kx l (i - 1)) (by omega) (by omega)
      obtain ⟨k0, hk0⟩ := div_eq ((ky l i - ky l (i - 1)) * (x - kx l (i - 1))) (kx l i - kx l (i - 1)) (by unfold I64; omega) (by unfold I64; omega)
      refine ⟨k0 + 1, fun k hk => ?_⟩
      obtain ⟨k, rfl⟩ : ∃ k', k = k' + 1 := ⟨k - 1, by omega⟩
      have hd := upTo (f := fun k => num_Div.f k _ _) (num_Div.mono _ _) hk0 (show k0 ≤ k by omega)
      have hs := divS_small ((ky l i - ky l (i - 1)) * (x - kx l (i - 1))) (kx l i - kx l (i - 1)) (by omega)
      rw [curve_between.j1, if_neg (by omega), w64' (x := (i : Int) - 1) (by omega) (by omega), if_pos (by omega), if_pos (by omega), if_neg (by omega), if_pos (by omega), if_pos (by omega), if_neg h0, if_neg hl]
      rw [hry, hrx, rdx, rdy, w64' (x := ky l i - ky l (i - 1)) (by omega) (by omega), w64' (x := x - kx l (i - 1)) (by omega) (by omega), w64' (x := kx l i - kx l (i - 1)) (by omega) (by omega),
        w64' (x := (ky l i - ky l (i - 1)) * (x - kx l (i - 1))) (by omega) (by omega)]
      rw [hd, Option.bind_some, w64' (by omega) (by omega)]
theorem between_l0 (l : List Kn) (hc : checkK l = 0) (x : Int) (hx : unitI x) : ∀ (n i : Nat), i + n = l.length → ∃ k0, ∀ k, k0 ≤ k → curve_between.l0 k l x (i : Int) = some (betw l x (idxFrom l x n i))
  | 0, i, hi => by
    obtain ⟨k0, h⟩ := between_j1 l hc x hx i (by omega)
    refine ⟨k0 + 1, fun k hk => ?_⟩
    obtain ⟨k, rfl⟩ : ∃ k', k = k' + 1 := ⟨k - 1, by omega⟩
    rw [curve_between.l0, if_neg (by omega)]
    exact h k (by omega)
  | n + 1, i, hi => by
    have h16 := (checkK_zero hc).2.1
    obtain ⟨k0, h⟩ := between_j1 l hc x hx i (by omega)
    obtain ⟨k1, h'⟩ := between_l0 l hc x hx n (i + 1) (by omega)
    refine ⟨k0 + k1 + 1, fun k hk => ?_⟩
    obtain ⟨k, rfl⟩ : ∃ k', k = k' + 1 := ⟨k - 1, by omega⟩
    rw [curve_between.l0, if_pos (by omega), if_pos (by omega), rdx, w64' (x := (i : Int) + 1) (by omega) (by omega)]
    simp only [idxFrom]
    by_cases hle : kx l i ≤ x
    · rw [if_pos hle, if_pos hle]
      exact h' k (by omega)
    · rw [if_neg hle, if_neg hle]
      exact h k (by omega)
theorem clamp_unit (x : Int) : unitI (clampS x 0 65535) := by unfold unitI clampS; omega
theorem at_eq (l : List Kn) (x : Int) : ∃ k, curve_At.f k l x = some (atK l x) := by
  unfold atK
  by_cases hc : checkK l = 0
  · obtain ⟨k0, h⟩ := between_l0 l hc (clampS x 0 65535) (clamp_unit x) l.length 0 (by omega)
    refine ⟨k0 + 33, ?_⟩
    unfold curve_At.f
    rw [clamp_eq, Option.bind_some, check_eq l _ (by omega), Option.bind_some, if_pos hc, if_pos hc]
    unfold curve_between.f
    have h' : curve_between.l0 (k0 + 33) l (clampS x 0 65535) 0 = some (betw l (clampS x 0 65535) (idxFrom l (clampS x 0 65535) l.length 0)) := h (k0 + 33) (by omega)
    rw [h', Option.bind_some]
  · refine ⟨33, ?_⟩
    unfold curve_At.f
    rw [clamp_eq, Option.bind_some, check_eq l _ (by omega), Option.bind_some, if_neg hc, if_neg hc]

/-- the reference's loop: the first place from i on whose x is above -/
def rAt (l : List Kn) (x : Int) : Nat → Nat → Int
  | 0, i => ky l (i - 1)
  | n + 1, i => if x < kx l i then ky l (i - 1) + divS ((ky l i - ky l (i - 1)) * (x - kx l (i - 1))) (kx l i - kx l (i - 1)) else rAt l x n (i + 1)
theorem rAt_betw (l : List Kn) (x : Int) : ∀ (n i : Nat), 1 ≤ i → i + n = l.length → rAt l x n i = betw l x (idxFrom l x n i)
  | 0, i, h1, hi => by
    show ky l (i - 1) = betw l x i
    unfold betw
    rw [if_neg (by omega), if_pos (by omega)]
  | n + 1, i, h1, hi => by
    simp only [rAt, idxFrom]
    by_cases hx : x < kx l i
    · rw [if_pos hx, if_neg (by omega)]
      unfold betw
      rw [if_neg (by omega), if_neg (by omega)]
    · rw [if_neg hx, if_pos (by omega)]
      exact rAt_betw l x n (i + 1) (by omega) (by omega)
theorem rat_l0 (l : List Kn) (hc : checkK l = 0) (x : Int) : ∀ (n i : Nat), 1 ≤ i → i + n = l.length → kx l (i - 1) ≤ x → ∃ k0, ∀ k, k0 ≤ k → imageeditorref07_At.l0 k l x (i : Int) = some (rAt l x n i)
  | 0, i, h1, hi, hx => by
    have h16 := (checkK_zero hc).2.1
    refine ⟨1, fun k hk => ?_⟩
    obtain ⟨k, rfl⟩ : ∃ k', k = k' + 1 := ⟨k - 1, by omega⟩
    have hry := rdy l (l.length - 1)
    rw [show ((l.length - 1 : Nat) : Int) = (l.length : Int) - 1 by omega] at hry
    rw [imageeditorref07_At.l0, if_neg (by omega), w64' (x := (l.length : Int) - 1) (by omega) (by omega), if_pos (by omega), if_pos (by omega), hry]
    simp only [rAt]
    rw [show i - 1 = l.length - 1 by omega]
  | n + 1, i, h1, hi, hx => by
    obtain ⟨h2, h16, hall⟩ := checkK_zero hc
    have ha := (hall i (by omega)).1
    have hb := (hall (i - 1) (by omega)).1
    have ho := (hall i (by omega)).2 (by omega)
    have hry := rdy l (i - 1)
    have hrx := rdx l (i - 1)
    rw [show ((i - 1 : Nat) : Int) = (i : Int) - 1 by omega] at hry hrx
    unfold unitI at ha hb
    simp only [rAt]
    by_cases hxi : x < kx l i
    · have hm := mul_unit (x := ky l i - ky l (i - 1)) (y := x - kx l (i - 1)) (by omega) (by omega)
      obtain ⟨k0, hk0⟩ := rdiv_eq ((ky l i - ky l (i - 1)) * (x - kx l (i - 1))) (kx l i - kx l (i - 1)) (by unfold I64; omega) (by unfold I64; omega)
      refine ⟨k0 + 1, fun k hk => ?_⟩
      obtain ⟨k, rfl⟩ : ∃ k', k = k' + 1 := ⟨k - 1, by omega⟩
      have hd := upTo (f := fun k => imageeditorref01_Div.f k _ _) (imageeditorref01_Div.mono _ _) hk0 (show k0 ≤ k by omega)
      have hs := divS_small ((ky l i - ky l (i - 1)) * (x - kx l (i - 1))) (kx l i - kx l (i - 1)) (by omega)
      rw [imageeditorref07_At.l0, if_pos (by omega), if_pos (by omega), rdx, if_pos hxi, if_pos hxi, w64' (x := (i : Int) - 1) (by omega) (by omega), if_pos (by omega), if_pos (by omega)]
      rw [hry, hrx, rdy, w64' (x := ky l i - ky l (i - 1)) (by omega) (by omega), w64' (x := x - kx l (i - 1)) (by omega) (by omega), w64' (x := kx l i - kx l (i - 1)) (by omega) (by omega),
        w64' (x := (ky l i - ky l (i - 1)) * (x - kx l (i - 1))) (by omega) (by omega)]
      rw [hd, Option.bind_some, w64' (by omega) (by omega)]
    · obtain ⟨k1, h'⟩ := rat_l0 l hc x n (i + 1) (by omega) (by omega) (by show kx l (i + 1 - 1) ≤ x; rw [show i + 1 - 1 = i by omega]; omega)
      refine ⟨k1 + 1, fun k hk => ?_⟩
      obtain ⟨k, rfl⟩ : ∃ k', k = k' + 1 := ⟨k - 1, by omega⟩
      rw [imageeditorref07_At.l0, if_pos (by omega), if_pos (by omega), rdx, if_neg hxi, if_neg hxi, w64' (x := (i : Int) + 1) (by omega) (by omega)]
      exact h' k (by omega)
theorem idx_all (l : List Kn) (c : Int) : ∀ (n i : Nat), (∀ j, i ≤ j → j < i + n → kx l j ≤ c) → idxFrom l c n i = i + n
  | 0, i, _ => rfl
  | n + 1, i, h => by
    simp only [idxFrom]
    rw [if_pos (h i (by omega) (by omega)), idx_all l c n (i + 1) (fun j h1 h2 => h j (by omega) (by omega))]
    omega
theorem idx_congr (l : List Kn) (x c : Int) : ∀ (n i : Nat), (∀ j, i ≤ j → j < i + n → (kx l j ≤ x ↔ kx l j ≤ c)) → idxFrom l x n i = idxFrom l c n i
  | 0, i, _ => rfl
  | n + 1, i, h => by
    simp only [idxFrom]
    have h0 := h i (by omega) (by omega)
    by_cases hx : kx l i ≤ x
    · rw [if_pos hx, if_pos (h0.1 hx), idx_congr l x c n (i + 1) (fun j h1 h2 => h j (by omega) (by omega))]
    · rw [if_neg hx, if_neg (fun hh => hx (h0.2 hh))]
theorem divS_zero (b : Int) (hb : 1 ≤ b) : divS 0 b = 0 := by
  unfold divS
  rw [if_neg (by omega), if_neg (by omega)]
  exact fdiv_unique (r := b) (by omega) (fun _ => by omega) (fun _ => by omega) (by omega)
theorem rat_eq (l : List Kn) (x : Int) : ∃ k, imageeditorref07_At.f k l x = some (atK l x) := by
  unfold atK
  by_cases hc : checkK l = 0
  · obtain ⟨h2, h16, hall⟩ := checkK_zero hc
    have h0 := (hall 0 (by omega)).1
    have h1 := (hall 1 (by omega))
    have h1o := h1.2 (by omega)
    rw [show 1 - 1 = 0 from rfl] at h1o
    have h1u := h1.1
    unfold unitI at h0 h1u
    have hx0 : (rd_T72 l 0).f0 = kx l 0 := rdx l 0
    have hy0 : (rd_T72 l 0).f1 = ky l 0 := rdy l 0
    obtain ⟨n, hn⟩ : ∃ n, l.length = n + 2 := ⟨l.length - 2, by omega⟩
    rw [if_pos hc]
    by_cases hle : x ≤ kx l 0
    · refine ⟨33, ?_⟩
      unfold imageeditorref07_At.f
      rw [rcheck_eq l _ (by omega), Option.bind_some, if_pos hc, if_pos (by omega), hx0, if_pos hle, hy0]
      congr 1
      rw [hn]
      simp only [idxFrom]
      by_cases hk : kx l 0 ≤ clampS x 0 65535
      · rw [if_pos hk]
        have hcx : clampS x 0 65535 = kx l 0 := by unfold clampS at *; omega
        rw [if_neg (by rw [hcx]; show ¬ kx l (0 + 1) ≤ kx l 0; rw [show 0 + 1 = 1 from rfl]; omega)]
        unfold betw
        rw [if_neg (by omega), if_neg (by omega), hcx, show 0 + 1 - 1 = 0 from rfl, Int.sub_self, Int.mul_zero, divS_zero _ (by show 1 ≤ kx l (0 + 1) - kx l 0; rw [show 0 + 1 = 1 from rfl]; omega)]
        omega
      · rw [if_neg hk]
        unfold betw
        rw [if_pos rfl]
    · obtain ⟨k0, h⟩ := rat_l0 l hc x (n + 1) 1 (by omega) (by omega) (by show kx l (1 - 1) ≤ x; rw [show 1 - 1 = 0 from rfl]; omega)
      refine ⟨k0 + 33, ?_⟩
      unfold imageeditorref07_At.f
      rw [rcheck_eq l _ (by omega), Option.bind_some, if_pos hc, if_pos (by omega), hx0, if_neg hle]
      have h' : imageeditorref07_At.l0 (k0 + 33) l x 1 = some (rAt l x (n + 1) 1) := h (k0 + 33) (by omega)
      rw [h', rAt_betw l x (n + 1) 1 (by omega) (by omega)]
      congr 1
      have e0 : idxFrom l (clampS x 0 65535) l.length 0 = idxFrom l (clampS x 0 65535) (n + 1) 1 := by
        rw [hn]
        show (if kx l 0 ≤ clampS x 0 65535 then _ else _) = _
        rw [if_pos (by unfold clampS; omega)]
      rw [e0]
      have e1 : idxFrom l x (n + 1) 1 = idxFrom l (clampS x 0 65535) (n + 1) 1 := idx_congr l x _ (n + 1) 1 (fun j h1 h2 => by
        have := (hall j (by omega)).1
        unfold unitI at this
        unfold clampS
        omega)
      rw [e1]
      by_cases hxc : clampS x 0 65535 = x
      · rw [hxc]
      · -- above the last
        have hbig : 65535 < x := by unfold clampS at hxc; omega
        have hcx : clampS x 0 65535 = 65535 := by unfold clampS; omega
        rw [hcx, idx_all l 65535 (n + 1) 1 (fun j h1 h2 => by have := (hall j (by omega)).1; unfold unitI at this; omega)]
        unfold betw
        rw [if_neg (by omega), if_pos (by omega), if_neg (by omega), if_pos (by omega)]
  · refine ⟨33, ?_⟩
    unfold imageeditorref07_At.f
    rw [rcheck_eq l _ (by omega), Option.bind_some, if_neg hc, if_neg hc, runit_eq, Option.bind_some]
    rfl

/-! the inverse -/
theorem inv_l0 (l : List Kn) (hl : l.length ≤ 16) : ∀ (n i : Nat) (m : List Kn) (k : Nat), i + n = l.length → m.length = l.length → n + 1 ≤ k → (∀ j, j < i → m[j]? = some (swapK (l.getD j z72))) →
    curve_Inverse.l0 k m l (l.length : Int) (i : Int) = some (l.map swapK, 0)
  | 0, i, m, k, hi, hm, hk, hd => by
    obtain ⟨k, rfl⟩ : ∃ k', k = k' + 1 := ⟨k - 1, by omega⟩
    rw [curve_Inverse.l0, if_neg (by omega)]
    congr 2
    apply List.ext_getElem?
    intro j
    by_cases hj : j < l.length
    · rw [hd j (by omega)]
      simp [hj]
    · rw [List.getElem?_eq_none (by omega), List.getElem?_eq_none (by simp; omega)]
  | n + 1, i, m, k, hi, hm, hk, hd => by
    obtain ⟨k, rfl⟩ : ∃ k', k = k' + 1 := ⟨k - 1, by omega⟩
    rw [curve_Inverse.l0, if_pos (by omega), if_pos (by omega), if_pos (by omega), if_pos (by omega), w64' (x := (i : Int) + 1) (by omega) (by omega)]
    refine inv_l0 l hl n (i + 1) _ k (by omega) (by simpa using hm) (by omega) (fun j hj => ?_)
    rw [show ((i : Nat) : Int).toNat = i by omega]
    by_cases he : j = i
    · subst he
      rw [List.getElem?_set_self (by omega)]
      rfl
    · rw [List.getElem?_set_ne (by omega)]
      exact hd j (by omega)
theorem inv_eq (l : List Kn) (k : Nat) (hk : 33 ≤ k) : curve_Inverse.f k l = some (invK l, invE l) := by
  unfold curve_Inverse.f invK invE
  rw [check_eq l k hk, Option.bind_some]
  by_cases hc : checkK l = 0
  · obtain ⟨h2, h16, _⟩ := checkK_zero hc
    rw [if_pos hc, if_pos hc, rising_eq l k hk, Option.bind_some]
    by_cases hr : risingK l = true
    · rw [if_pos hr, if_pos (show (0 : Int) ≤ (l.length : Int) by omega), if_pos (show ((l.length : Int)).toNat ≤ 17592186044416 by omega), if_pos hr, if_pos (show checkK l = 0 ∧ risingK l = true from ⟨hc, hr⟩)]
      exact inv_l0 l h16 l.length 0 _ k (by omega) (by simp) (by omega) (fun j hj => absurd hj (by omega))
    · rw [if_neg hr, if_neg hr, if_neg (fun h => hr h.2)]
  · rw [if_neg hc, if_neg hc, if_neg (fun h => hc h.1)]
theorem rinv_l0 (l : List Kn) (hl : l.length ≤ 16) : ∀ (n i k : Nat), i + n = l.length → n + 1 ≤ k → imageeditorref07_Inverse.l0 k l ((l.take i).map swapK) (i : Int) = some (l.map swapK, 0)
  | 0, i, k, hi, hk => by
    obtain ⟨k, rfl⟩ : ∃ k', k = k' + 1 := ⟨k - 1, by omega⟩
    rw [imageeditorref07_Inverse.l0, if_neg (by omega), List.take_of_length_le (by omega)]
  | n + 1, i, k, hi, hk => by
    obtain ⟨k, rfl⟩ : ∃ k', k = k' + 1 := ⟨k - 1, by omega⟩
    have ih := rinv_l0 l hl n (i + 1) k (by omega) (by omega)
    rw [imageeditorref07_Inverse.l0, if_pos (by omega), if_pos (by omega), if_pos (by simp; omega), w64' (x := (i : Int) + 1) (by omega) (by omega)]
    rw [← ih]
    congr 1
    rw [List.take_add_one, List.getElem?_eq_getElem (by omega)]
    simp only [Option.toList_some, List.map_append, List.map_cons, List.map_nil]
    congr 2
    show (⟨ky l i, kx l i⟩ : Kn) = swapK l[i]
    unfold swapK kx ky
    rw [List.getD_eq_getElem?_getD, List.getElem?_eq_getElem (by omega)]
    rfl
theorem rinv_eq (l : List Kn) (k : Nat) (hk : 33 ≤ k) : imageeditorref07_Inverse.f k l = some (invK l, invE l) := by
  unfold imageeditorref07_Inverse.f invK invE
  rw [rcheck_eq l k hk, Option.bind_some]
  by_cases hc : checkK l = 0
  · obtain ⟨h2, h16, _⟩ := checkK_zero hc
    rw [if_pos hc, if_pos hc, rrising_eq l k hk, Option.bind_some]
    by_cases hr : risingK l = true
    · rw [if_pos hr, if_pos hr, if_pos (show checkK l = 0 ∧ risingK l = true from ⟨hc, hr⟩)]
      exact rinv_l0 l h16 l.length 0 k (by omega) (by omega)
    · rw [if_neg hr, if_neg hr, if_neg (fun h => hr h.2)]
  · rw [if_neg hc, if_neg hc, if_neg (fun h => hc h.1)]
end Go.Proofs.Ytlpfepcmpccbeaa.Cv
/-
  The numbers of package wire: plain laws; the printed functions of package wire and of its reference come to them.
-/
namespace Go.Proofs.Ytlpfepcmpccbeaa.Wi
open Go.RowKit Go.Proofs.Ytlpfepcmpccbeaa.NM Go.Proofs.Ytlpfepcmpccbeaa.Cv Go.Proofs.Ytlpfepcmpccbeaa.PNum Go.Proofs.YtlpfepcmpccbeaaW.PrintWords Go.Proofs.YtlpfepcmpccbeaaW.PrintLast Go.Proofs.YtlpfepcmpccbeaaW.PrintMore
set_option linter.unusedVariables false

/-- the bytes of a number, at most f + 1 of them -/
def dig : Nat → Int → List Int
  | 0, n => [n]
  | f + 1, n => if n > 127 then (n % 128 + 128) :: dig f (n / 128) else [n]
def uintS (n : Int) : ByteArray := strOfNums (dig 9 n)
theorem strOfNums_append (a b : List Int) : strOfNums (a ++ b) = strOfNums a ++ strOfNums b := by
  apply ByteArray.ext
  simp [strOfNums]
theorem or8 (n : Int) (h : 0 ≤ n) : Go.bits .or .u8 (n % 256) 128 = n % 128 + 128 := by
  have hd : ∀ a : Nat, a < 256 → Go.bits .or .u8 ((a : Nat) : Int) 128 = ((a : Nat) : Int) % 128 + 128 := by
    intro a ha
    rw [show (128 : Int) = ((128 : Nat) : Int) from rfl, u8_or_nat a 128 ha (by omega)]
    have : ∀ x : Fin 256, x.val ||| 128 = x.val % 128 + 128 := by decide +kernel
    have := this ⟨a, ha⟩
    simp only at this
    omega
  have := hd (n % 256).toNat (by omega)
  rw [show (((n % 256).toNat : Nat) : Int) = n % 256 by omega] at this
  rw [this]; omega
theorem or64 (n : Int) (h : 0 ≤ n) (h1 : n < 18446744073709551616) : (Go.bits .or .u64 (Go.bits .and .u64 n 127) 128) % 256 = n % 128 + 128 := by
  rw [u64_and n 127 h h1 (by omega) (by omega)]
  have e : ((127 : Int).toNat) = 2 ^ 7 - 1 := by decide
  rw [e, Nat.and_two_pow_sub_one_eq_mod]
  have hd : ∀ a : Nat, a < 128 → Go.bits .or .u64 ((a : Nat) : Int) 128 = ((a : Nat) : Int) + 128 := by
    intro a ha
    rw [show (128 : Int) = ((128 : Nat) : Int) from rfl, u64_or_nat a 128 (by omega) (by omega)]
    have : ∀ x : Fin 128, x.val ||| 128 = x.val + 128 := by decide +kernel
    have := this ⟨a, ha⟩
    simp only at this
    omega
  rw [hd _ (by omega)]
  omega

theorem uint_l0 : ∀ (f k : Nat) (n : Int) (acc : List Int), 0 ≤ n → n < 128 * (((128 ^ f : Nat)) : Int) → f + 1 ≤ k → acc.length ≤ 100 - f → f ≤ 9 → wire_Uint.l0 k n acc = some (strOfNums (acc ++ dig f n))
  | 0, k, n, acc, h0, h1, hk, ha, hf => by
    obtain ⟨k, rfl⟩ : ∃ k', k = k' + 1 := ⟨k - 1, by omega⟩
    simp only [Nat.pow_zero] at h1
    rw [wire_Uint.l0, if_neg (by omega), if_pos (by omega)]
    rw [show n % 256 = n by omega]
    rfl
  | f + 1, k, n, acc, h0, h1, hk, ha, hf => by
    obtain ⟨k, rfl⟩ : ∃ k', k = k' + 1 := ⟨k - 1, by omega⟩
    rw [wire_Uint.l0]
    simp only [dig]
    by_cases hn : n > 127
    · rw [if_pos hn, if_pos (by omega), if_pos hn, or8 n h0]
      have hp : ((128 ^ (f + 1) : Nat) : Int) = 128 * ((128 ^ f : Nat) : Int) := by rw [Nat.pow_succ]; omega
      rw [hp] at h1
      rw [uint_l0 f k (n / 128) (acc ++ [n % 128 + 128]) (by omega) (by omega) (by omega) (by simp; omega) (by omega)]
      simp
    · rw [if_neg hn, if_pos (by omega), if_neg hn, show n % 256 = n by omega]
theorem uint_eq (n : Int) (h : U64 n) (k : Nat) (hk : 10 ≤ k) : wire_Uint.f k n = some (uintS n) := by
  unfold U64 at h
  unfold wire_Uint.f uintS
  rw [uint_l0 9 k n [] (by omega) (by have e : ((128 ^ 9 : Nat) : Int) = 9223372036854775808 := (by decide); rw [e]; omega) (by omega) (by simp) (by omega)]
  rfl

theorem ruint_l0 : ∀ (f k : Nat) (n : Int) (acc : ByteArray), 0 ≤ n → n < 18446744073709551616 → n < 128 * (((128 ^ f : Nat)) : Int) → f + 1 ≤ k → acc.size ≤ 100 - f → f ≤ 9 → imageeditorref04_Uint.l0 k n acc = some (acc ++ strOfNums (dig f n))
  | 0, k, n, acc, h0, h2, h1, hk, ha, hf => by
    obtain ⟨k, rfl⟩ : ∃ k', k = k' + 1 := ⟨k - 1, by omega⟩
    simp only [Nat.pow_zero] at h1
    rw [imageeditorref04_Uint.l0, if_neg (by omega), Option.bind_some, if_pos (by rw [strOfNums_size]; simp; omega)]
    rw [show n % 256 = n by omega]
    rfl
  | f + 1, k, n, acc, h0, h2, h1, hk, ha, hf => by
    obtain ⟨k, rfl⟩ : ∃ k', k = k' + 1 := ⟨k - 1, by omega⟩
    rw [imageeditorref04_Uint.l0]
    simp only [dig]
    by_cases hn : n > 127
    · rw [if_pos (by omega), Option.bind_some, if_pos (by rw [strOfNums_size]; simp; omega), if_pos hn, or64 n h0 h2]
      have hp : ((128 ^ (f + 1) : Nat) : Int) = 128 * ((128 ^ f : Nat) : Int) := by rw [Nat.pow_succ]; omega
      rw [hp] at h1
      rw [ruint_l0 f k (n / 128) (acc ++ strOfNums [n % 128 + 128]) (by omega) (by omega) (by omega) (by omega) (by rw [ByteArray.size_append, strOfNums_size]; simp; omega) (by omega)]
      rw [ByteArray.append_assoc, ← strOfNums_append]
      rfl
    · rw [if_neg (by omega), Option.bind_some, if_pos (by rw [strOfNums_size]; simp; omega), if_neg hn, show n % 256 = n by omega]
theorem uintS_size (n : Int) : (uintS n).size ≤ 10 := by
  unfold uintS
  rw [strOfNums_size]
  have : ∀ (f : Nat) (n : Int), (dig f n).length ≤ f + 1 := by
    intro f
    induction f with
    | zero => intro n; simp [dig]
    | succ f ih =>
      intro n
      simp only [dig]
      split
      · have := ih (n / 128); simp; omega
      · simp
  exact this 9 n
theorem uint_any (n : Int) (h : U64 n) (w : World) : Calls Try.prog 45 #[.int .u64 n] w fun e w' => e = .returned (.string (uintS n)) ∧ Below w.heap.size w w' :=
  wire_Uint.calls 10 n _ w (uint_eq n h 10 (by omega))
/-- a number with a sign, as one without -/
def zig (n : Int) : Int := if n < 0 then -2 * n - 1 else 2 * n
theorem zig_u64 {n : Int} (h : I64 n) : U64 (zig n) := by unfold I64 at h; unfold U64 zig; split <;> omega
def intS (n : Int) : ByteArray := uintS (zig n)
def textS (s : ByteArray) : ByteArray := uintS (s.size : Int) ++ s
set_option maxHeartbeats 1000000 in
theorem text_any (s : ByteArray) (w : World) (hs : s.size ≤ 140737488355232) : Calls Try.prog 44 #[.string s] w fun e w' => e = .returned (.string (textS s)) ∧ Below w.heap.size w w' := by
  have hu := uintS_size (s.size : Int)
  have e1 : IntKind.u64.wrap (s.size : Int) = (s.size : Int) := wu (by omega) (by omega)
  have HU := Lib.hid (fun w => uint_any (s.size : Int) (by unfold U64; omega) w)
  have HT : Hid (textS s = uintS (s.size : Int) ++ s) := rfl
  generalize uintS (s.size : Int) = u at *
  have h2 : u.size + s.size ≤ 9223372036854775807 := by omega
  go_enter Try.func44, Try.ntmps44
  go_wp2_with fail
  refine (HU.out _).mono ?_; rintro e w1 ⟨rfl, b1⟩
  go_wp2
  go_ret
  exact ⟨by rw [HT.out]; rfl, b1⟩
theorem xorMax (a : Nat) (ha : a < 18446744073709551616) : 18446744073709551615 ^^^ a = 18446744073709551615 - a := by
  have h := congrArg BitVec.toNat (BitVec.allOnes_xor (x := BitVec.ofNat 64 a))
  rw [BitVec.toNat_xor, BitVec.toNat_not, BitVec.toNat_allOnes, BitVec.toNat_ofNat, Nat.mod_eq_of_lt (by simpa using ha)] at h
  exact h
theorem not64 (x : Int) (h0 : 0 ≤ x) (h1 : x < 18446744073709551616) : Go.bits .xor .u64 IntKind.u64.max x = 18446744073709551615 - x := by
  rw [show IntKind.u64.max = 18446744073709551615 by decide, u64_xor _ x (by omega) (by omega) h0 h1, show (18446744073709551615 : Int).toNat = 18446744073709551615 by decide, xorMax _ (by omega)]
  omega
set_option maxHeartbeats 1000000 in
theorem int_any (n : Int) (w : World) (hn : I64 n) : Calls Try.prog 46 #[.int .i64 n] w fun e w' => e = .returned (.string (intS n)) ∧ Below w.heap.size w w' := by
  have HU := Lib.hid (fun w => uint_any (zig n) (zig_u64 hn) w)
  have HT : Hid (intS n = uintS (zig n)) := rfl
  unfold I64 at hn
  by_cases hneg : n < 0
  · have hz : zig n = -2 * n - 1 := by unfold zig; rw [if_pos hneg]
    have f1 : IntKind.u64.wrap n = n + 18446744073709551616 := by rw [IntKind.wrap_u64]; omega
    have f2 : IntKind.u64.wrap ((n + 18446744073709551616) * 2) = 2 * n + 18446744073709551616 := by rw [IntKind.wrap_u64]; omega
    have f3 : Go.bits .xor .u64 IntKind.u64.max (2 * n + 18446744073709551616) = zig n := by rw [not64 _ (by omega) (by omega), hz]; omega
    clear hz
    generalize zig n = z at *
    go_enter Try.func46, Try.ntmps46
    go_wp2_with fail
    refine (HU.out _).mono ?_; rintro e w1 ⟨rfl, b1⟩
    go_wp2
    go_ret
    exact ⟨by rw [HT.out]; rfl, b1⟩
  · have hz : zig n = 2 * n := by unfold zig; rw [if_neg hneg]
    have f1 : IntKind.u64.wrap n = n := by rw [IntKind.wrap_u64]; omega
    have f2 : IntKind.u64.wrap (n * 2) = zig n := by rw [IntKind.wrap_u64]; omega
    clear hz
    generalize zig n = z at *
    go_enter Try.func46, Try.ntmps46
    go_wp2_with fail
    refine (HU.out _).mono ?_; rintro e w1 ⟨rfl, b1⟩
    go_wp2
    go_ret
    exact ⟨by rw [HT.out]; rfl, b1⟩
end Go.Proofs.Ytlpfepcmpccbeaa.Wi
/-
  Names: profile.isName and the reference's.
-/
namespace Go.Proofs.Ytlpfepcmpccbeaa.Nm9
open Go.RowKit Go.Proofs.Ytlpfepcmpccbeaa.NM Go.Proofs.Ytlpfepcmpccbeaa.Cv Go.Proofs.Ytlpfepcmpccbeaa.Wi Go.Proofs.Ytlpfepcmpccbeaa.PNum Go.Proofs.YtlpfepcmpccbeaaW.PrintWords Go.Proofs.YtlpfepcmpccbeaaW.PrintLast Go.Proofs.YtlpfepcmpccbeaaW.PrintMore
set_option linter.unusedVariables false

def okFrom (s : ByteArray) : Nat → Nat → Bool
  | 0, _ => true
  | n + 1, i => if bt s i < 33 ∨ bt s i > 126 then false else okFrom s n (i + 1)
def nameS (s : ByteArray) : Bool := decide (1 ≤ s.size ∧ s.size ≤ 32) && okFrom s s.size 0
theorem rname_l0 (s : ByteArray) (hs : s.size ≤ 140737488355232) : ∀ (n i k : Nat), i + n = s.size → n + 1 ≤ k → imageeditorref09_Name.l0 k s (i : Int) = some (okFrom s n i && decide (1 ≤ s.size ∧ s.size ≤ 32))
  | 0, i, k, hi, hk => by
    obtain ⟨k, rfl⟩ : ∃ k', k = k' + 1 := ⟨k - 1, by omega⟩
    rw [imageeditorref09_Name.l0, if_neg (by omega)]
    by_cases h1 : 1 ≤ s.size
    · rw [if_pos (by omega)]; simp [okFrom, h1]; omega
    · rw [if_neg (by omega)]; simp [okFrom, h1]
  | n + 1, i, k, hi, hk => by
    obtain ⟨k, rfl⟩ : ∃ k', k = k' + 1 := ⟨k - 1, by omega⟩
    have ih := rname_l0 s hs n (i + 1) k (by omega) (by omega)
    rw [imageeditorref09_Name.l0, if_pos (by omega), if_pos (by omega), w64' (x := (i : Int) + 1) (by omega) (by omega)]
    simp only [okFrom]
    by_cases h1 : bt s i < 33
    · rw [if_pos h1, if_pos (.inl h1)]; rfl
    · rw [if_neg h1]
      by_cases h2 : bt s i > 126
      · rw [if_pos h2, if_pos (.inr h2)]; rfl
      · rw [if_neg h2, if_neg (by omega)]
        exact ih
theorem rname_any (s : ByteArray) (w : World) (hs : s.size ≤ 140737488355232) : Calls Try.prog 53 #[.string s] w fun e w' => e = .returned (.bool (nameS s)) ∧ Drawn0 w w' := by
  refine imageeditorref09_Name.calls (s.size + 1) s _ w ?_
  unfold imageeditorref09_Name.f nameS
  rw [show (0 : Int) = ((0 : Nat) : Int) from rfl, rname_l0 s hs s.size 0 _ (by omega) (by omega), Bool.and_comm]
theorem toList_empty {s : ByteArray} : s.toList.isEmpty = decide (s.size = 0) := by
  rw [ByteArray.toList_eq]
  obtain ⟨⟨l⟩⟩ := s
  cases l <;> simp [ByteArray.size]
theorem bt_get (s : ByteArray) (j : Nat) (hj : j < s.size) : ((s.data.toList.getD j 0).toNat : Int) = bt s j := by
  unfold bt
  have hj' : ((j : Int)).toNat < s.size := by omega
  rw [dif_pos hj']
  obtain ⟨⟨l⟩⟩ := s
  have hl : j < l.length := by simpa [ByteArray.size] using hj
  simp only [List.getD, List.getElem?_eq_getElem hl, Option.getD_some]
  rfl
set_option maxHeartbeats 1000000 in
theorem bad_any (b : Int) (w : World) (h : 0 ≤ b ∧ b ≤ 255) : Calls Try.prog 74 #[.int .u8 b] w fun e w' => e = .returned (.bool (decide (b < 33 ∨ b > 126))) ∧ Below w.heap.size w w' := by
  by_cases h1 : b < 33
  · have hd : decide (b < 33 ∨ b > 126) = true := by simp [h1]
    rw [hd]
    go_enter Try.func74, Try.ntmps74
    go_wp2
    go_ret
    exact ⟨rfl, Below.refl _ _⟩
  · by_cases h2 : 126 < b
    · have hd : decide (b < 33 ∨ b > 126) = true := by simp [h2]
      rw [hd]
      go_enter Try.func74, Try.ntmps74
      go_wp2
      go_ret
      exact ⟨rfl, Below.refl _ _⟩
    · have hd : decide (b < 33 ∨ b > 126) = false := by simp; omega
      rw [hd]
      go_enter Try.func74, Try.ntmps74
      go_wp2
      go_ret
      exact ⟨rfl, Below.refl _ _⟩
/-- the first byte that no name has -/
def firstBad (s : ByteArray) : Nat → Nat → Int
  | 0, _ => -1
  | n + 1, i => if bt s i < 33 ∨ bt s i > 126 then (i : Int) else firstBad s n (i + 1)
theorem firstBad_ok (s : ByteArray) : ∀ n i, decide (firstBad s n i ≥ 0) = !okFrom s n i
  | 0, i => by simp [firstBad, okFrom]
  | n + 1, i => by
    have ih := firstBad_ok s n (i + 1)
    by_cases h : bt s i < 33 ∨ bt s i > 126
    · have e1 : firstBad s (n + 1) i = (i : Int) := by show (if _ then _ else _) = _; rw [if_pos h]
      have e2 : okFrom s (n + 1) i = false := by show (if _ then _ else _) = _; rw [if_pos h]
      rw [e2]; simp [e1]
    · have e1 : firstBad s (n + 1) i = firstBad s n (i + 1) := by show (if _ then _ else _) = _; rw [if_neg h]
      have e2 : okFrom s (n + 1) i = okFrom s n (i + 1) := by show (if _ then _ else _) = _; rw [if_neg h]
      rw [e2, ← ih]; simp [e1]
theorem cells_kept {w w' : World} {g n : Nat} {f : Nat → Value} (h : ∀ j, j < n → w.cell? ⟨g, j, none⟩ = some (f j)) {B : Nat} (hb : Below B w w') (hg : g < B) : ∀ j, j < n → w'.cell? ⟨g, j, none⟩ = some (f j) :=
  fun j hj => (World.cell?_of_block (a := ⟨g, j, none⟩) (hb.block g hg)).trans (h j hj)
set_option maxRecDepth 20000 in
set_option maxHeartbeats 1000000 in
theorem index_any (s : ByteArray) (g cap : Nat) (w : World) (hs : s.size ≤ 140737488355232) (hcap : s.size ≤ cap) (hg : g < w.heap.size) (hc : ∀ j, j < s.size → w.cell? ⟨g, j, none⟩ = some (.int .u8 (bt s j))) :
    Calls Try.prog 94 #[.slice (some ⟨g, 0, none⟩) s.size cap, .func (.func 74) #[] #[]] w fun e w' => e = .returned (.int .i64 (firstBad s s.size 0)) ∧ Below w.heap.size w w' := by
  have HC := Lib.hid hc
  clear hc
  go_enter Try.func94, Try.ntmps94
  go_wp2_with fail
  go_loopw [4, 5, 8] (fun _ _ v wr => ∃ k : Nat, k ≤ s.size ∧ v = .int .i64 k ∧ Hid (firstBad s s.size 0 = firstBad s (s.size - k) k) ∧ Hid (∀ j, j < s.size → wr.cell? ⟨g, j, none⟩ = some (.int .u8 (bt s j))) ∧ Below w.heap.size w wr) (fun _ _ v _ => s.size - (intOf v).toNat)
  case atStart => exact ⟨0, by omega, rfl, rfl, HC, Below.refl _ _⟩
  case round =>
    obtain ⟨k, hk, rfl, hf, hcw, hb⟩ := hrel
    clear HC
    by_cases hk9 : k < s.size
    · have c1 := hcw.out k hk9
      have hr := bt_range s k
      have HBA := Lib.hid (fun w => bad_any (bt s k) w hr)
      have hf2 := hf.out
      rw [show s.size - k = (s.size - (k + 1)) + 1 by omega] at hf2
      simp only [firstBad] at hf2
      by_cases hbad : bt s k < 33 ∨ bt s k > 126
      · rw [if_pos hbad] at hf2
        have HF := Lib.hid hf2
        have hd : decide (bt s k < 33 ∨ bt s k > 126) = true := decide_eq_true hbad
        rw [hd] at HBA
        clear hf2 hd hbad hf
        go_wp2_with fail
        refine (HBA.out _).mono ?_; rintro e w1 ⟨rfl, b1⟩
        have hb' := hb.trans (b1.mono hb.size)
        clear b1 hb
        go_wp2
        go_ret
        exact ⟨Mx.ret_int HF.out.symm, hb'⟩
      · rw [if_neg hbad] at hf2
        have HF := Lib.hid hf2
        have hd : decide (bt s k < 33 ∨ bt s k > 126) = false := decide_eq_false hbad
        rw [hd] at HBA
        clear hf2 hd hbad hf
        go_wp2_with fail
        refine (HBA.out _).mono ?_; rintro e w1 ⟨rfl, b1⟩
        have hcw' := Lib.hid (cells_kept hcw.out b1 (Nat.lt_of_lt_of_le hg hb.size))
        have hb' := hb.trans (b1.mono hb.size)
        clear b1 hb hcw
        go_wp2
        go_roundw
        case rel => exact ⟨k + 1, by omega, by go_num, HF, hcw', hb'⟩
        case measure => simp [intOf]; omega
    · obtain rfl : k = s.size := by omega
      have HF : Hid (firstBad s s.size 0 = -1) := by
        have := hf.out
        rw [Nat.sub_self] at this
        exact this
      clear hf
      go_wp2
      go_ret
      exact ⟨Mx.ret_int HF.out.symm, hb⟩
set_option maxHeartbeats 1000000 in
theorem contains_any (s : ByteArray) (g cap : Nat) (w : World) (hs : s.size ≤ 140737488355232) (hcap : s.size ≤ cap) (hg : g < w.heap.size) (hc : ∀ j, j < s.size → w.cell? ⟨g, j, none⟩ = some (.int .u8 (bt s j))) :
    Calls Try.prog 73 #[.slice (some ⟨g, 0, none⟩) s.size cap, .func (.func 74) #[] #[]] w fun e w' => e = .returned (.bool (!okFrom s s.size 0)) ∧ Below w.heap.size w w' := by
  have HI := Lib.hid (index_any s g cap w hs hcap hg hc)
  have hf := firstBad_ok s s.size 0
  generalize firstBad s s.size 0 = x at *
  have HF := Lib.hid hf
  clear hf hc
  go_enter Try.func73, Try.ntmps73
  go_wp2_with fail
  refine HI.out.mono ?_; rintro e w1 ⟨rfl, b1⟩
  go_wp2
  go_ret
  exact ⟨by rw [← HF.out]; rfl, b1⟩
set_option maxRecDepth 20000 in
set_option maxHeartbeats 1000000 in
theorem name_any (s : ByteArray) (w : World) (hs : s.size ≤ 140737488355232) : Calls Try.prog 50 #[.string s] w fun e w' => e = .returned (.bool (nameS s)) ∧ Below w.heap.size w w' := by
  by_cases h1 : s.size = 0
  · have hE : s.toList.isEmpty = true := by rw [toList_empty]; simpa using h1
    have hn : nameS s = false := by unfold nameS; simp [h1]
    rw [hn]
    go_enter Try.func50, Try.ntmps50
    go_wp2
    go_ret
    exact ⟨rfl, Below.refl _ _⟩
  · have hE : s.toList.isEmpty = false := by rw [toList_empty]; simpa using h1
    by_cases h2 : 32 < s.size
    · have hn : nameS s = false := by unfold nameS; simp [show ¬ s.size ≤ 32 by omega]
      rw [hn]
      go_enter Try.func50, Try.ntmps50
      go_wp2
      go_ret
      exact ⟨rfl, Below.refl _ _⟩
    · have hcv := fun w => Lib.run_convert_string_bytes (P := Try.prog) w 9 89 5 s Try.underlying9 Try.underlying89 Try.underlying5
      go_enter Try.func50, Try.ntmps50
      go_wp2_with fail
      have hcell : ∀ j, j < s.size → (Lib.bytesWorld w 5 s).cell? ⟨w.heap.size, j, none⟩ = some (.int .u8 (bt s j)) := fun j hj => by rw [Lib.bytesWorld_cell w _ s j hj, bt_get s j hj]
      have hbw : Below w.heap.size w (Lib.bytesWorld w 5 s) := ⟨rfl, rfl, rfl, by rw [Lib.bytesWorld_size]; omega, fun j hj => Lib.bytesWorld_at_old w _ s j hj⟩
      refine (contains_any s w.heap.size _ _ hs (grownCap_ge _ _ _ _) (by rw [Lib.bytesWorld_size]; omega) hcell).mono ?_; rintro e w1 ⟨rfl, b1⟩
      go_wp2
      go_ret
      have hn : nameS s = okFrom s s.size 0 := by unfold nameS; rw [show decide (1 ≤ s.size ∧ s.size ≤ 32) = true from decide_eq_true (by omega)]; simp
      exact ⟨by rw [hn]; rfl, hbw.trans (b1.mono hbw.size)⟩
end Go.Proofs.Ytlpfepcmpccbeaa.Nm9
/-
  The reference's cofactor (imageeditorref08.cofactor).
-/
namespace Go.Proofs.Ytlpfepcmpccbeaa.Co
open Go.RowKit Go.Proofs.Ytlpfepcmpccbeaa.NM Go.Proofs.Ytlpfepcmpccbeaa.Mx Go.Proofs.Ytlpfepcmpccbeaa.Spec Go.Proofs.YtlpfepcmpccbeaaW.PrintWords Go.Proofs.YtlpfepcmpccbeaaW.PrintMore Go.Proofs.YtlpfepcmpccbeaaW.PrintLast
set_option linter.unusedVariables false

/-- what is kept of the first n elements when row i and column j fall -/
def cl (m : Nat → Int) (i j : Nat) : Nat → List Int
  | 0 => []
  | n + 1 => if n / 3 ≠ i ∧ n % 3 ≠ j then cl m i j n ++ [m n] else cl m i j n
theorem infoI : (Try.prog.info? 3).map (fun i => (i.zero, i.size, i.bytes)) = some (some (.int .i64 0), 1, 8) := by kernel_rfl
theorem cl_len (m : Nat → Int) (i j : Nat) : ∀ n, (cl m i j n).length ≤ n
  | 0 => Nat.le_refl _
  | n + 1 => by
    have := cl_len m i j n
    simp only [cl]
    split <;> simp <;> omega
theorem cl_nine (m : Nat → Int) (i j : Nat) (hi : i < 3) (hj : j < 3) (h : okM m) : ∃ p q r s, cl m i j 9 = [p, q, r, s] ∧ (if (i + j) % 2 = 1 then -(p * s - q * r) else p * s - q * r) = minorS m i j ∧
    (-1048576 ≤ p ∧ p ≤ 1048576) ∧ (-1048576 ≤ q ∧ q ≤ 1048576) ∧ (-1048576 ≤ r ∧ r ≤ 1048576) ∧ (-1048576 ≤ s ∧ s ≤ 1048576) := by
  have hi' : i = 0 ∨ i = 1 ∨ i = 2 := by omega
  have hj' : j = 0 ∨ j = 1 ∨ j = 2 := by omega
  rcases hi' with rfl | rfl | rfl <;> rcases hj' with rfl | rfl | rfl
  · exact ⟨m 4, m 5, m 7, m 8, rfl, by show m 4 * m 8 - m 5 * m 7 = m 4 * m 8 - m 5 * m 7; grind, h 4 (by omega), h 5 (by omega), h 7 (by omega), h 8 (by omega)⟩
  · exact ⟨m 3, m 5, m 6, m 8, rfl, by show -(m 3 * m 8 - m 5 * m 6) = m 5 * m 6 - m 3 * m 8; grind, h 3 (by omega), h 5 (by omega), h 6 (by omega), h 8 (by omega)⟩
  · exact ⟨m 3, m 4, m 6, m 7, rfl, by show m 3 * m 7 - m 4 * m 6 = m 3 * m 7 - m 4 * m 6; grind, h 3 (by omega), h 4 (by omega), h 6 (by omega), h 7 (by omega)⟩
  · exact ⟨m 1, m 2, m 7, m 8, rfl, by show -(m 1 * m 8 - m 2 * m 7) = m 7 * m 2 - m 8 * m 1; grind, h 1 (by omega), h 2 (by omega), h 7 (by omega), h 8 (by omega)⟩
  · exact ⟨m 0, m 2, m 6, m 8, rfl, by show m 0 * m 8 - m 2 * m 6 = m 8 * m 0 - m 6 * m 2; grind, h 0 (by omega), h 2 (by omega), h 6 (by omega), h 8 (by omega)⟩
  · exact ⟨m 0, m 1, m 6, m 7, rfl, by show -(m 0 * m 7 - m 1 * m 6) = m 6 * m 1 - m 7 * m 0; grind, h 0 (by omega), h 1 (by omega), h 6 (by omega), h 7 (by omega)⟩
  · exact ⟨m 1, m 2, m 4, m 5, rfl, by show m 1 * m 5 - m 2 * m 4 = m 1 * m 5 - m 2 * m 4; grind, h 1 (by omega), h 2 (by omega), h 4 (by omega), h 5 (by omega)⟩
  · exact ⟨m 0, m 2, m 3, m 5, rfl, by show -(m 0 * m 5 - m 2 * m 3) = m 2 * m 3 - m 0 * m 5; grind, h 0 (by omega), h 2 (by omega), h 3 (by omega), h 5 (by omega)⟩
  · exact ⟨m 0, m 1, m 3, m 4, rfl, by show m 0 * m 4 - m 1 * m 3 = m 0 * m 4 - m 1 * m 3; grind, h 0 (by omega), h 1 (by omega), h 3 (by omega), h 4 (by omega)⟩
set_option maxRecDepth 20000 in
set_option maxHeartbeats 4000000 in
theorem cofactor_any (m : Nat → Int) (i j : Nat) (w : World) (h : okM m) (hi : i < 3) (hj : j < 3) :
    Calls Try.prog 83 #[.agg (arrN 9 m), .int .i64 (i : Int), .int .i64 (j : Int)] w fun e w' => e = .returned (.int .i64 (minorS m i j)) ∧ Below w.heap.size w w' := by
  go_enter Try.func83, Try.ntmps83
  go_upto_region 1 with fail
  have h0 : holdsN (w.alloc (.cells (arrN 9 m) 23)) w.heap.size 23 9 m := holdsN_new w 23 9 m
  have hb : Below w.heap.size w (w.alloc (.cells (arrN 9 m) 23)) := (Below.refl _ _).alloc (Nat.le_refl _) _
  generalize w.alloc (.cells (arrN 9 m) 23) = wc at *
  generalize hB : w.heap.size = B at *
  have HB := Lib.hid hB
  clear hB
  go_wp2_with fail
  go_loopw [7, 8] (fun v7 v8 wr => ∃ y : Nat, y ≤ 3 ∧ v8 = .int .i64 y ∧ Hid (Kd.R (Kd.int .i64) 3 wr wc.heap.size (fun _ => True) v7 (cl m i j (3 * y))) ∧ Below wc.heap.size wc wr) (fun _ v _ => 3 - (intOf v).toNat)
  case atStart => exact ⟨0, by omega, rfl, Kd.R_nil _ _ _ _ _, Below.refl _ _⟩
  case round =>
    obtain ⟨y, hy, rfl, HO, kb⟩ := hrel
    by_cases hy3 : y < 3
    · go_wp2_with fail
      obtain ⟨wo, hwo⟩ : ∃ wo : World, wo = wr := ⟨_, rfl⟩
      subst hwo
      rw [show decide ((y : Int) < 3) = true from decide_eq_true (by omega)]
      go_loopw [7, 9] (fun v7 v9 wr => ∃ x : Nat, x ≤ 3 ∧ v9 = .int .i64 x ∧ Hid (Kd.R (Kd.int .i64) 3 wr wc.heap.size (fun _ => True) v7 (cl m i j (3 * y + x))) ∧ Below wc.heap.size wc wr) (fun _ v _ => 3 - (intOf v).toNat)
      case atStart => exact ⟨0, by omega, rfl, HO, kb⟩
      case round =>
        obtain ⟨x, hx, rfl, HO2, kb⟩ := hrel
        by_cases hx3 : x < 3
        · have hlen := cl_len m i j (3 * y + x)
          have hcell := (h0.kept kb h0.lt).cell (3 * y + x) (by omega)
          have hsuc : cl m i j (3 * y + (x + 1)) = if y ≠ i ∧ x ≠ j then cl m i j (3 * y + x) ++ [m (3 * y + x)] else cl m i j (3 * y + x) := by
            show (if (3 * y + x) / 3 ≠ i ∧ (3 * y + x) % 3 ≠ j then _ else _) = _
            rw [show (3 * y + x) / 3 = y by omega, show (3 * y + x) % 3 = x by omega]
            rfl
          by_cases hyi : y = i
          · have e1 : ((y : Int) != (i : Int)) = false := by simp [hyi]
            rw [if_neg (fun hh => hh.1 hyi)] at hsuc
            have HO3 : Hid (Kd.R (Kd.int .i64) 3 wr wc.heap.size (fun _ => True) u7 (cl m i j (3 * y + (x + 1)))) := by rw [hsuc]; exact HO2
            go_wp2
            go_roundw
            case rel => exact ⟨x + 1, by omega, by go_num, HO3, kb⟩
            case measure => simp [intOf]; omega
          · have e1 : ((y : Int) != (i : Int)) = true := by simp; omega
            by_cases hxj : x = j
            · have e2 : ((x : Int) != (j : Int)) = false := by simp [hxj]
              rw [if_neg (fun hh => hh.2 hxj)] at hsuc
              have HO3 : Hid (Kd.R (Kd.int .i64) 3 wr wc.heap.size (fun _ => True) u7 (cl m i j (3 * y + (x + 1)))) := by rw [hsuc]; exact HO2
              go_wp2
              go_roundw
              case rel => exact ⟨x + 1, by omega, by go_num, HO3, kb⟩
              case measure => simp [intOf]; omega
            · have e2 : ((x : Int) != (j : Int)) = true := by simp; omega
              rw [if_pos ⟨hyi, hxj⟩] at hsuc
              generalize m (3 * y + x) = vv at *
              have HS := Lib.hid hsuc
              clear hsuc
              go_wp2_with (first | ((with_reducible refine gate_builtin (b := .append) (xs := #[.tmp 27, .tmp 34]) rfl ?_); at_builtin; refine Kd.R_append (Kd.int .i64) (w0 := wc) wc.heap.size rfl (.tmp 27) (.tmp 34) 67 3 (.int .i64 0) 8 rfl Try.underlying67 infoI rfl (by decide) (by omega) u7 (cl m i j (3 * y + x)) vv [.int .i64 vv] (fun _ => True) (fun _ => False) rfl rfl ?aP (fun _ hk => hk.elim) ?aF ?aO ?aB ?aS ?aL ?_; (case aP => exact rfl); (case aB => exact kb); (case aF => exact (fun _ _ => trivial)); (case aO => exact HO2.out); (case aS => exact kb.size); (case aL => omega); intro v1 w4 ho hb4 hg hat; rw [← HS.out] at ho; have HO3 := Lib.hid ho; have HB4 := Lib.hid hb4; clear hg hat ho hb4))
              go_roundw
              case rel => first | exact ⟨x + 1, by omega, by go_num, HO3, HB4.out⟩ | exact ⟨v1, _, _, _, _, _, _, _, _, _, _, _, _, _, _, _, _, _, _, _, _, _, _, ⟨x + 1, by omega, by go_num, HO3, HB4.out⟩, rfl⟩
              case measure => simp [intOf]; omega
        · obtain rfl : x = 3 := by omega
          have HO3 : Hid (Kd.R (Kd.int .i64) 3 wr wc.heap.size (fun _ => True) u7 (cl m i j (3 * (y + 1)))) := HO2
          go_wp2
          go_roundw
          case rel => exact ⟨y + 1, by omega, by go_num, HO3, kb⟩
          case measure => simp [intOf]; omega
    · obtain rfl : y = 3 := by omega
      obtain ⟨p, q, r, s, hl, hmn, hp, hq, hr, hs⟩ := cl_nine m i j hi hj h
      have HO9 : Kd.R (Kd.int .i64) 3 wr wc.heap.size (fun _ => True) u7 [p, q, r, s] := by rw [← hl]; exact HO.out
      obtain ⟨g, cap, rfl, hg1, hg2, _⟩ := Kd.R_form HO9 (by simp)
      have hcap := (Kd.R_reads' HO9).2.1
      have hel : ∀ k : Nat, k < 4 → wr.cell? ⟨g, k, none⟩ = some (.int .i64 ([p, q, r, s].getD k 0)) := by
        intro k hk
        obtain ⟨c, hc1, hc2, hc3, _⟩ := Kd.R_elem HO9 0 (k : Int) (by omega) (by simp; omega)
        have : c = [.int .i64 ([p, q, r, s].getD k 0)] := hc2
        have h3 := hc3 0 (.int .i64 ([p, q, r, s].getD k 0)) (by rw [this]; rfl)
        simp only [show (Kd.int IntKind.i64).sz = 1 from rfl, Nat.mul_one, Int.toNat_natCast, Nat.add_zero] at h3
        exact h3
      have c0 : wr.cell? ⟨g, 0, none⟩ = some (.int .i64 p) := hel 0 (by omega)
      have c1 : wr.cell? ⟨g, 1, none⟩ = some (.int .i64 q) := hel 1 (by omega)
      have c2 : wr.cell? ⟨g, 2, none⟩ = some (.int .i64 r) := hel 2 (by omega)
      have c3 : wr.cell? ⟨g, 3, none⟩ = some (.int .i64 s) := hel 3 (by omega)
      have b1 := mul20 hp hs
      have b2 := mul20 hq hr
      have w1 : IntKind.i64.wrap (p * s) = p * s := IntWalk.i64_in _ (by omega)
      have w2 : IntKind.i64.wrap (q * r) = q * r := IntWalk.i64_in _ (by omega)
      have w3 : IntKind.i64.wrap (p * s - q * r) = p * s - q * r := IntWalk.i64_in _ (by omega)
      have w4 : IntKind.i64.wrap (-(p * s - q * r)) = -(p * s - q * r) := IntWalk.i64_in _ (by omega)
      have HM := Lib.hid hmn
      clear hel HO9 HO hmn hl b1 b2
      have hpar : (((i : Int) + (j : Int)).tmod 2 == 1) = decide ((i + j) % 2 = 1) := by
        rw [Int.tmod_eq_emod_of_nonneg (by omega)]
        by_cases hp2 : (i + j) % 2 = 1
        · rw [decide_eq_true hp2]; simp; omega
        · rw [decide_eq_false hp2]; simp; omega
      go_wp2_with fail
      go_region_held3 (fun w' => w'.cell? ⟨g, 0, none⟩ = some (.int .i64 p) ∧ w'.cell? ⟨g, 1, none⟩ = some (.int .i64 q) ∧ w'.cell? ⟨g, 2, none⟩ = some (.int .i64 r) ∧ w'.cell? ⟨g, 3, none⟩ = some (.int .i64 s)) (go_keep) (fail)
      by_cases hp2 : (i + j) % 2 = 1
      · rw [decide_eq_true hp2] at hpar
        have HM1 : Hid (minorS m i j = -(p * s - q * r)) := by rw [← HM.out, if_pos hp2]; exact rfl
        go_wp2
        go_ret
        exact ⟨Mx.ret_int HM1.out.symm, by rw [HB.out]; exact hb.trans ((kb.mono (by rw [← HB.out]; exact hb.size)).drew)⟩
      · rw [decide_eq_false hp2] at hpar
        have HM1 : Hid (minorS m i j = p * s - q * r) := by rw [← HM.out, if_neg hp2]; exact rfl
        go_wp2
        go_ret
        exact ⟨Mx.ret_int HM1.out.symm, by rw [HB.out]; exact hb.trans ((kb.mono (by rw [← HB.out]; exact hb.size)).drew)⟩
end Go.Proofs.Ytlpfepcmpccbeaa.Co
/-
  The reference's inverse (imageeditorref08.Inverse).
-/
namespace Go.Proofs.Ytlpfepcmpccbeaa.Mx
open Go.RowKit Go.Proofs.Ytlpfepcmpccbeaa.NM Go.Proofs.Ytlpfepcmpccbeaa.El Go.Proofs.YtlpfepcmpccbeaaW.PrintWords Go.Proofs.YtlpfepcmpccbeaaW.PrintMore
set_option linter.unusedVariables false

theorem cof_num (m : Nat → Int) (c : Nat) (ci : Int) (hci : ci = c) (h : okM m) (hc : c < 3) (w : World) :
    Calls Try.prog 83 #[.agg (arrN 9 m), .int .i64 0, .int .i64 ci] w fun e w' => e = .returned (.int .i64 (minorS m 0 c)) ∧ Below w.heap.size w w' := by
  subst hci
  exact Co.cofactor_any m 0 c w h (by omega) hc
set_option maxRecDepth 20000 in
set_option maxHeartbeats 4000000 in
theorem rexact_any (m : Nat → Int) (w : World) (h : okM m) :
    Calls Try.prog 81 #[.agg (arrN 9 m)] w fun e w' => e = .returned (.int .i64 (exactS m)) ∧ Below w.heap.size w w' := by
  have hh := holdsN_new w 23 9 m
  have hb : Below w.heap.size w (w.alloc (.cells (arrN 9 m) 23)) := (Below.refl _ _).alloc (Nat.le_refl _) _
  have M0 := Lib.hid (cof_num m 0 0 rfl h (by omega))
  have M1 := Lib.hid (cof_num m 1 1 rfl h (by omega))
  have M2 := Lib.hid (cof_num m 2 2 rfl h (by omega))
  have hE : exactS m = m 0 * minorS m 0 0 + m 1 * minorS m 0 1 + m 2 * minorS m 0 2 := rfl
  have p0 := mul61 (h 0 (by omega)) (minorS_bound h 0 0)
  have p1 := mul61 (h 1 (by omega)) (minorS_bound h 0 1)
  have p2 := mul61 (h 2 (by omega)) (minorS_bound h 0 2)
  have HE := Lib.hid hE
  clear hE h
  have x0 := IntWalk.i64_in (m 0 * minorS m 0 0) (by omega)
  have x1 := IntWalk.i64_in (m 1 * minorS m 0 1) (by omega)
  have x2 := IntWalk.i64_in (m 2 * minorS m 0 2) (by omega)
  have x3 := IntWalk.i64_in (m 0 * minorS m 0 0 + m 1 * minorS m 0 1) (by omega)
  have x4 := IntWalk.i64_in (m 0 * minorS m 0 0 + m 1 * minorS m 0 1 + m 2 * minorS m 0 2) (by omega)
  clear p0 p1 p2
  generalize hB : w.heap.size = B at *
  have HB := Lib.hid hB
  go_enter Try.func81, Try.ntmps81
  go_upto_region 1 with fail
  clear hB
  generalize w.alloc (.cells (arrN 9 m) 23) = wc at *
  go_cut [2] (fun s2 wx => s2 = .int .i64 (exactS m) ∧ Below B w wx)
  case first =>
    refine wp_region_quiet (C := fun w' => Below wc.heap.size wc w' ∧ holdsN w' B 23 9 m) (by kernel_rfl) (by kernel_rfl) ⟨(Below.refl _ _).drew, hh⟩ ?_
    refine wpQuiet_val rfl (v := .pointer (some ⟨B, 0, none⟩)) (fun w hw => by unfold Oper.quietAt; go_simp) ?_
    (try simp only [Act.put, List.setIfInBounds_toArray, List.set_cons_zero, List.set_cons_succ])
    refine wpQuiet_val rfl (v := .int .i64 (m 0)) (fun w hw => by have hc := (hw.2.cell 0 (by omega)); unfold Oper.quietAt; go_simp) ?_
    (try simp only [Act.put, List.setIfInBounds_toArray, List.set_cons_zero, List.set_cons_succ])
    refine wpQuiet_val rfl (v := .agg (arrN 9 m)) (fun w hw => quietAt_load 23 _ rfl (run_loadAt_arr (P := Try.prog) 23 hw.2 Try.underlying23 hi9)) ?_
    refine wpQuiet_val rfl (v := .int .i64 (minorS m 0 0)) (fun w hw => by unfold Oper.quietAt; go_simp; exact (M0.out w).mono fun e w' h => ⟨h.1, ⟨hw.1.trans (h.2.mono hw.1.size), hw.2.kept h.2 hw.2.lt⟩⟩) ?_
    (try simp only [Act.put, List.setIfInBounds_toArray, List.set_cons_zero, List.set_cons_succ])
    refine wpQuiet_val rfl (v := .int .i64 (m 0 * minorS m 0 0)) (fun w hw => by unfold Oper.quietAt; go_simp) ?_
    (try simp only [Act.put, List.setIfInBounds_toArray, List.set_cons_zero, List.set_cons_succ])
    refine wpQuiet_val rfl (v := .pointer (some ⟨B, 1, none⟩)) (fun w hw => by unfold Oper.quietAt; go_simp) ?_
    (try simp only [Act.put, List.setIfInBounds_toArray, List.set_cons_zero, List.set_cons_succ])
    refine wpQuiet_val rfl (v := .int .i64 (m 1)) (fun w hw => by have hc := (hw.2.cell 1 (by omega)); unfold Oper.quietAt; go_simp) ?_
    (try simp only [Act.put, List.setIfInBounds_toArray, List.set_cons_zero, List.set_cons_succ])
    refine wpQuiet_val rfl (v := .agg (arrN 9 m)) (fun w hw => quietAt_load 23 _ rfl (run_loadAt_arr (P := Try.prog) 23 hw.2 Try.underlying23 hi9)) ?_
    refine wpQuiet_val rfl (v := .int .i64 (minorS m 0 1)) (fun w hw => by unfold Oper.quietAt; go_simp; exact (M1.out w).mono fun e w' h => ⟨h.1, ⟨hw.1.trans (h.2.mono hw.1.size), hw.2.kept h.2 hw.2.lt⟩⟩) ?_
    (try simp only [Act.put, List.setIfInBounds_toArray, List.set_cons_zero, List.set_cons_succ])
    refine wpQuiet_val rfl (v := .int .i64 (m 1 * minorS m 0 1)) (fun w hw => by unfold Oper.quietAt; go_simp) ?_
    (try simp only [Act.put, List.setIfInBounds_toArray, List.set_cons_zero, List.set_cons_succ])
    refine wpQuiet_val rfl (v := .int .i64 (m 0 * minorS m 0 0 + m 1 * minorS m 0 1)) (fun w hw => by unfold Oper.quietAt; go_simp) ?_
    (try simp only [Act.put, List.setIfInBounds_toArray, List.set_cons_zero, List.set_cons_succ])
    refine wpQuiet_val rfl (v := .pointer (some ⟨B, 2, none⟩)) (fun w hw => by unfold Oper.quietAt; go_simp) ?_
    (try simp only [Act.put, List.setIfInBounds_toArray, List.set_cons_zero, List.set_cons_succ])
    refine wpQuiet_val rfl (v := .int .i64 (m 2)) (fun w hw => by have hc := (hw.2.cell 2 (by omega)); unfold Oper.quietAt; go_simp) ?_
    (try simp only [Act.put, List.setIfInBounds_toArray, List.set_cons_zero, List.set_cons_succ])
    refine wpQuiet_val rfl (v := .agg (arrN 9 m)) (fun w hw => quietAt_load 23 _ rfl (run_loadAt_arr (P := Try.prog) 23 hw.2 Try.underlying23 hi9)) ?_
    refine wpQuiet_val rfl (v := .int .i64 (minorS m 0 2)) (fun w hw => by unfold Oper.quietAt; go_simp; exact (M2.out w).mono fun e w' h => ⟨h.1, ⟨hw.1.trans (h.2.mono hw.1.size), hw.2.kept h.2 hw.2.lt⟩⟩) ?_
    (try simp only [Act.put, List.setIfInBounds_toArray, List.set_cons_zero, List.set_cons_succ])
    refine wpQuiet_val rfl (v := .int .i64 (m 2 * minorS m 0 2)) (fun w hw => by unfold Oper.quietAt; go_simp) ?_
    (try simp only [Act.put, List.setIfInBounds_toArray, List.set_cons_zero, List.set_cons_succ])
    refine wpQuiet_val rfl (v := .int .i64 (m 0 * minorS m 0 0 + m 1 * minorS m 0 1 + m 2 * minorS m 0 2)) (fun w hw => by unfold Oper.quietAt; go_simp) ?_
    (try simp only [Act.put, List.setIfInBounds_toArray, List.set_cons_zero, List.set_cons_succ])
    refine wpQuiet_val rfl (v := .int .i64 (m 0 * minorS m 0 0 + m 1 * minorS m 0 1 + m 2 * minorS m 0 2)) (fun w hw => by unfold Oper.quietAt; go_simp) ?_
    (try simp only [Act.put, List.setIfInBounds_toArray, List.set_cons_zero, List.set_cons_succ])
    refine wpQuiet_nil ?_
    intro w' hw'
    rename_i J K' hJ hK
    refine hK _ _ ?_
    go_meet
    case rel => exact ⟨by rw [HE.out], hb.trans (hw'.1.mono (by rw [← HB.out]; exact hb.size))⟩
  case rest =>
    obtain ⟨rfl, hbe⟩ := hcut
    go_wp2
    go_ret
    exact ⟨rfl, hbe⟩


theorem el_inv (m : Nat → Int) (i j : Nat) : elX (minorS m j i) (exactS m) = invEl m i j := rfl
set_option maxHeartbeats 1000000 in
theorem rinverse_bad (m : Nat → Int) (w : World) (h : ¬ okM m) :
    Calls Try.prog 54 #[.agg (arrN 9 m)] w fun e w' => e = .returned (.tuple #[.agg (arrN 9 (invV m)), .int .i64 (invCode m)]) ∧ Below w.heap.size w w' := by
  have hC : invCode m = 2 := by unfold invCode; rw [if_neg h]
  have HV := Lib.hid (invV_zero (m := m) (by rw [hC]; decide))
  have HC := Lib.hid hC
  clear hC
  have hc := codeM_bad h
  go_enter Try.func54, Try.ntmps54
  go_upto_region 2 with fail
  rw [zero9]
  have h0 : holdsN (((w.alloc (.cells (arrN 9 m) 23)).alloc (.cells (arrN 9 (fun _ => 0)) 23)).alloc (.cells (arrN 9 (fun _ => 0)) 23)) (w.heap.size) 23 9 m := ((holdsN_new w 23 9 m).alloc (.cells (arrN 9 (fun _ => 0)) 23)).alloc (.cells (arrN 9 (fun _ => 0)) 23)
  have h1 : holdsN (((w.alloc (.cells (arrN 9 m) 23)).alloc (.cells (arrN 9 (fun _ => 0)) 23)).alloc (.cells (arrN 9 (fun _ => 0)) 23)) (w.heap.size + 1) 23 9 (fun _ => 0) := by
    have := (holdsN_new (w.alloc (.cells (arrN 9 m) 23)) 23 9 (fun _ => 0)).alloc (.cells (arrN 9 (fun _ => 0)) 23)
    simpa using this
  have h2 : holdsN (((w.alloc (.cells (arrN 9 m) 23)).alloc (.cells (arrN 9 (fun _ => 0)) 23)).alloc (.cells (arrN 9 (fun _ => 0)) 23)) (w.heap.size + 1 + 1) 23 9 (fun _ => 0) := by
    have := holdsN_new ((w.alloc (.cells (arrN 9 m) 23)).alloc (.cells (arrN 9 (fun _ => 0)) 23)) 23 9 (fun _ => 0)
    simpa using this
  have hb : Below w.heap.size w (((w.alloc (.cells (arrN 9 m) 23)).alloc (.cells (arrN 9 (fun _ => 0)) 23)).alloc (.cells (arrN 9 (fun _ => 0)) 23)) := (((Below.refl _ _).alloc (Nat.le_refl _) _).alloc (by simp) _).alloc (by simp; omega) _
  have hs : w.heap.size + 1 + 1 < (((w.alloc (.cells (arrN 9 m) 23)).alloc (.cells (arrN 9 (fun _ => 0)) 23)).alloc (.cells (arrN 9 (fun _ => 0)) 23)).heap.size := by simp
  generalize (((w.alloc (.cells (arrN 9 m) 23)).alloc (.cells (arrN 9 (fun _ => 0)) 23)).alloc (.cells (arrN 9 (fun _ => 0)) 23)) = wc at *
  generalize hB : w.heap.size = B at *
  have HB := Lib.hid hB
  clear hB
  go_wp2_with (refine wpList_load_arr rfl 23 (.tmp 1) rfl rfl h0 Try.underlying23 hi9 ?_)
  refine (rcheck_any m _).mono ?_; rintro e w1 ⟨rfl, b1⟩
  have g0 := h0.kept b1 (by omega)
  have g1 := h1.kept b1 (by omega)
  have g2 := h2.kept b1 (by omega)
  have gb := hb.trans (b1.mono (by omega))
  have gs := Nat.lt_of_lt_of_le hs b1.size
  clear h0 h1 h2 hb hs b1
  have G1 := Lib.hid g1
  clear g1
  go_wp2_with (first
    | (refine wpList_load_arr rfl 23 (.tmp 4) rfl rfl g2 Try.underlying23 hi9 ?_)
    | (refine wpList_store_arr rfl 23 (.tmp 2) (.tmp 13) rfl rfl rfl G1.out (arrN_size _ _) hi9 ?_))
  refine bodyPost_ret (v := .tuple #[.agg (arrN 9 fun _ => 0), .int .i64 2]) (results_arr_tmp rfl _ _ rfl rfl (holdsN_row G1.out _) Try.underlying23 hi9) rfl ?_
  exact ⟨by rw [HV.out, HC.out], by rw [HB.out]; exact below_setRow gb (by omega) _⟩
set_option maxHeartbeats 1000000 in
theorem rinverse_zero (m : Nat → Int) (w : World) (h : okM m) (hd : exactS m = 0) :
    Calls Try.prog 54 #[.agg (arrN 9 m)] w fun e w' => e = .returned (.tuple #[.agg (arrN 9 (invV m)), .int .i64 (invCode m)]) ∧ Below w.heap.size w w' := by
  have hC : invCode m = 17 := by unfold invCode; rw [if_pos h, if_pos hd]
  have HV := Lib.hid (invV_zero (m := m) (by rw [hC]; decide))
  have HC := Lib.hid hC
  clear hC
  have hc := codeM_ok h
  have hX := fun w => rexact_any m w h
  rw [hd] at hX
  have HX := Lib.hid hX
  clear hX hd h
  go_enter Try.func54, Try.ntmps54
  go_upto_region 2 with fail
  rw [zero9]
  have h0 : holdsN (((w.alloc (.cells (arrN 9 m) 23)).alloc (.cells (arrN 9 (fun _ => 0)) 23)).alloc (.cells (arrN 9 (fun _ => 0)) 23)) (w.heap.size) 23 9 m := ((holdsN_new w 23 9 m).alloc (.cells (arrN 9 (fun _ => 0)) 23)).alloc (.cells (arrN 9 (fun _ => 0)) 23)
  have h1 : holdsN (((w.alloc (.cells (arrN 9 m) 23)).alloc (.cells (arrN 9 (fun _ => 0)) 23)).alloc (.cells (arrN 9 (fun _ => 0)) 23)) (w.heap.size + 1) 23 9 (fun _ => 0) := by
    have := (holdsN_new (w.alloc (.cells (arrN 9 m) 23)) 23 9 (fun _ => 0)).alloc (.cells (arrN 9 (fun _ => 0)) 23)
    simpa using this
  have h2 : holdsN (((w.alloc (.cells (arrN 9 m) 23)).alloc (.cells (arrN 9 (fun _ => 0)) 23)).alloc (.cells (arrN 9 (fun _ => 0)) 23)) (w.heap.size + 1 + 1) 23 9 (fun _ => 0) := by
    have := holdsN_new ((w.alloc (.cells (arrN 9 m) 23)).alloc (.cells (arrN 9 (fun _ => 0)) 23)) 23 9 (fun _ => 0)
    simpa using this
  have hb : Below w.heap.size w (((w.alloc (.cells (arrN 9 m) 23)).alloc (.cells (arrN 9 (fun _ => 0)) 23)).alloc (.cells (arrN 9 (fun _ => 0)) 23)) := (((Below.refl _ _).alloc (Nat.le_refl _) _).alloc (by simp) _).alloc (by simp; omega) _
  have hs : w.heap.size + 1 + 1 < (((w.alloc (.cells (arrN 9 m) 23)).alloc (.cells (arrN 9 (fun _ => 0)) 23)).alloc (.cells (arrN 9 (fun _ => 0)) 23)).heap.size := by simp
  generalize (((w.alloc (.cells (arrN 9 m) 23)).alloc (.cells (arrN 9 (fun _ => 0)) 23)).alloc (.cells (arrN 9 (fun _ => 0)) 23)) = wc at *
  generalize hB : w.heap.size = B at *
  have HB := Lib.hid hB
  clear hB
  go_wp2_with (refine wpList_load_arr rfl 23 (.tmp 1) rfl rfl h0 Try.underlying23 hi9 ?_)
  refine (rcheck_any m _).mono ?_; rintro e w1 ⟨rfl, b1⟩
  have g0 := h0.kept b1 (by omega)
  have g1 := h1.kept b1 (by omega)
  have g2 := h2.kept b1 (by omega)
  have gb := hb.trans (b1.mono (by omega))
  have gs := Nat.lt_of_lt_of_le hs b1.size
  clear h0 h1 h2 hb hs b1
  go_wp2_with (refine wpList_load_arr rfl 23 (.tmp 1) rfl rfl g0 Try.underlying23 hi9 ?_)
  refine (HX.out _).mono ?_; rintro e w2 ⟨rfl, b2⟩
  have G1 := Lib.hid (g1.kept b2 (by omega))
  have G2 := g2.kept b2 (by omega)
  have GB := gb.trans (b2.mono (by omega))
  clear g0 g1 g2 gb gs b2
  go_wp2_with (first
    | (refine wpList_load_arr rfl 23 (.tmp 4) rfl rfl G2 Try.underlying23 hi9 ?_)
    | (refine wpList_store_arr rfl 23 (.tmp 2) (.tmp 18) rfl rfl rfl G1.out (arrN_size _ _) hi9 ?_))
  refine bodyPost_ret (v := .tuple #[.agg (arrN 9 fun _ => 0), .int .i64 17]) (results_arr_tmp rfl _ _ rfl rfl (holdsN_row G1.out _) Try.underlying23 hi9) rfl ?_
  exact ⟨by rw [HV.out, HC.out], by rw [HB.out]; exact below_setRow GB (by omega) _⟩

set_option maxRecDepth 20000 in
set_option maxHeartbeats 4000000 in
theorem rinverse_loop (m : Nat → Int) (w : World) (h : okM m) (hd : exactS m ≠ 0) :
    Calls Try.prog 54 #[.agg (arrN 9 m)] w fun e w' => e = .returned (.tuple #[.agg (arrN 9 (invV m)), .int .i64 (invCode m)]) ∧ Below w.heap.size w w' := by
  have hc := codeM_ok h
  have HX := Lib.hid (fun w => rexact_any m w h)
  have hbd := exactS_bound h
  have HMB := Lib.hid (minorS_bound h)
  have HMA := Lib.hid (fun r c w => Co.cofactor_any m r c w h)
  have HOUT : Hid (∀ i j, i < 3 → j < 3 → ¬ (-1048576 ≤ invEl m i j ∧ invEl m i j ≤ 1048576) → invCode m = 17) := by
    intro i j hi hj hn
    unfold invCode
    rw [if_pos h, if_neg hd, if_neg (fun hall => hn (hall i hi j hj))]
  have HIN : Hid (invIn m → invCode m = 0) := by
    intro hall
    unfold invCode
    rw [if_pos h, if_neg hd, if_pos hall]
  have hd0 : (exactS m == 0) = false := by simpa using hd
  have HE : Hid (∀ i j, elX (minorS m j i) (exactS m) = invEl m i j) := el_inv m
  have HEL : Hid (∀ n, (-4611686018427387904 ≤ n ∧ n ≤ 4611686018427387904) → ∀ w, Calls Try.prog 82 #[.int .i64 n, .int .i64 (exactS m)] w fun e w' => e = .returned (.tuple #[.int .i64 (elV n (exactS m)), .bool (elB n (exactS m))]) ∧ Drawn0 w w') := fun n hn w => element_any n (exactS m) w hn (by omega) hd
  clear h hd
  generalize exactS m = D at *
  go_enter Try.func54, Try.ntmps54
  go_upto_region 2 with fail
  rw [zero9]
  have h0 : holdsN (((w.alloc (.cells (arrN 9 m) 23)).alloc (.cells (arrN 9 (fun _ => 0)) 23)).alloc (.cells (arrN 9 (fun _ => 0)) 23)) (w.heap.size) 23 9 m := ((holdsN_new w 23 9 m).alloc (.cells (arrN 9 (fun _ => 0)) 23)).alloc (.cells (arrN 9 (fun _ => 0)) 23)
  have h1 : holdsN (((w.alloc (.cells (arrN 9 m) 23)).alloc (.cells (arrN 9 (fun _ => 0)) 23)).alloc (.cells (arrN 9 (fun _ => 0)) 23)) (w.heap.size + 1) 23 9 (fun _ => 0) := by
    have := (holdsN_new (w.alloc (.cells (arrN 9 m) 23)) 23 9 (fun _ => 0)).alloc (.cells (arrN 9 (fun _ => 0)) 23)
    simpa using this
  have h2 : holdsN (((w.alloc (.cells (arrN 9 m) 23)).alloc (.cells (arrN 9 (fun _ => 0)) 23)).alloc (.cells (arrN 9 (fun _ => 0)) 23)) (w.heap.size + 1 + 1) 23 9 (fun _ => 0) := by
    have := holdsN_new ((w.alloc (.cells (arrN 9 m) 23)).alloc (.cells (arrN 9 (fun _ => 0)) 23)) 23 9 (fun _ => 0)
    simpa using this
  have hb : Below w.heap.size w (((w.alloc (.cells (arrN 9 m) 23)).alloc (.cells (arrN 9 (fun _ => 0)) 23)).alloc (.cells (arrN 9 (fun _ => 0)) 23)) := (((Below.refl _ _).alloc (Nat.le_refl _) _).alloc (by simp) _).alloc (by simp; omega) _
  have hs : w.heap.size + 1 + 1 < (((w.alloc (.cells (arrN 9 m) 23)).alloc (.cells (arrN 9 (fun _ => 0)) 23)).alloc (.cells (arrN 9 (fun _ => 0)) 23)).heap.size := by simp
  generalize (((w.alloc (.cells (arrN 9 m) 23)).alloc (.cells (arrN 9 (fun _ => 0)) 23)).alloc (.cells (arrN 9 (fun _ => 0)) 23)) = wc at *
  generalize hB : w.heap.size = B at *
  have HB := Lib.hid hB
  clear hB
  go_wp2_with (refine wpList_load_arr rfl 23 (.tmp 1) rfl rfl h0 Try.underlying23 hi9 ?_)
  refine (rcheck_any m _).mono ?_; rintro e w1 ⟨rfl, b1⟩
  have g0 := h0.kept b1 (by omega)
  have g1 := h1.kept b1 (by omega)
  have g2 := h2.kept b1 (by omega)
  have gb := hb.trans (b1.mono (by omega))
  have gs := Nat.lt_of_lt_of_le hs b1.size
  clear h0 h1 h2 hb hs b1
  go_wp2_with (refine wpList_load_arr rfl 23 (.tmp 1) rfl rfl g0 Try.underlying23 hi9 ?_)
  refine (HX.out _).mono ?_; rintro e w2 ⟨rfl, b2⟩
  have k0 := g0.kept b2 (by omega)
  have k1 := g1.kept b2 (by omega)
  have k2 := g2.kept b2 (by omega)
  have kb := gb.trans (b2.mono (by omega))
  have ks := Nat.lt_of_lt_of_le gs b2.size
  clear g0 g1 g2 gb gs b2 hc
  go_wp2_with fail
  go_loopw [3, 6] (fun _ v6 wr => ∃ (i : Nat) (p : Nat → Int), i ≤ 3 ∧ v6 = .int .i64 i ∧ Hid (Done i 0 p posR (invEl m)) ∧ Hid (∀ a b, a < 3 → b < 3 → (a < i ∨ (a = i ∧ b < 0)) → -1048576 ≤ invEl m a b ∧ invEl m a b ≤ 1048576) ∧ holdsN wr B 23 9 m ∧ holdsN wr (B + 1) 23 9 (fun _ => 0) ∧ holdsN wr (B + 1 + 1) 23 9 p ∧ Below B w wr ∧ B + 1 + 1 < wr.heap.size) (fun _ v _ => 3 - (intOf v).toNat)
  case atStart => exact ⟨0, fun _ => 0, by omega, rfl, Done.zero _ _ _, fun a b _ _ h => absurd h (by omega), k0, k1, k2, kb, ks⟩
  case round =>
    obtain ⟨i, p, hi, rfl, hdn, hin, k0, k1, k2, kb, ks⟩ := hrel
    by_cases hi3 : i < 3
    · go_wp2_with fail
      obtain ⟨wo, hwo⟩ : ∃ wo : World, wo = wr := ⟨_, rfl⟩
      subst hwo
      try rw [show decide ((i : Int) < 3) = true from decide_eq_true (by omega)]
      go_loopw [3, 7] (fun _ v7 wr => ∃ (j : Nat) (p : Nat → Int), j ≤ 3 ∧ v7 = .int .i64 j ∧ Hid (Done i j p posR (invEl m)) ∧ Hid (∀ a b, a < 3 → b < 3 → (a < i ∨ (a = i ∧ b < j)) → -1048576 ≤ invEl m a b ∧ invEl m a b ≤ 1048576) ∧ holdsN wr B 23 9 m ∧ holdsN wr (B + 1) 23 9 (fun _ => 0) ∧ holdsN wr (B + 1 + 1) 23 9 p ∧ Below B w wr ∧ B + 1 + 1 < wr.heap.size) (fun _ v _ => 3 - (intOf v).toNat)
      case atStart => exact ⟨0, p, by omega, rfl, hdn, hin, k0, k1, k2, kb, ks⟩
      case round =>
        obtain ⟨j, p, hj, rfl, hdn, hin, k0, k1, k2, kb, ks⟩ := hrel
        by_cases hj3 : j < 3
        · have hmb := HMB.out j i
          have hma := fun w => HMA.out j i w hj3 hi3
          have hel := HE.out i j
          have hcall := HEL.out (minorS m j i) (by omega)
          have HDN' : Hid (Done i (j + 1) (upd p (posR i j) (invEl m i j)) posR (invEl m)) := hdn.out.step hi3 hj3 (by unfold posR; omega)
          have hout := HOUT.out i j hi3 hj3
          generalize minorS m j i = M at *
          have HMA1 := Lib.hid hma
          have HRT := Lib.hid hcall
          clear hma hcall
          have hin' : -1048576 ≤ invEl m i j → invEl m i j ≤ 1048576 → Hid (∀ a b, a < 3 → b < 3 → (a < i ∨ (a = i ∧ b < j + 1)) → -1048576 ≤ invEl m a b ∧ invEl m a b ≤ 1048576) := by
            intro h1 h2 a b ha hb' hab
            by_cases he : a = i ∧ b = j
            · obtain ⟨rfl, rfl⟩ := he; exact ⟨h1, h2⟩
            · exact hin.out a b ha hb' (by omega)
          generalize invEl m i j = x at *
          obtain ⟨hmb0, hmb1⟩ := hmb
          go_wp2_with (refine wpList_load_arr rfl 23 (.tmp 1) rfl rfl k0 Try.underlying23 hi9 ?_)
          refine (HMA1.out _).mono ?_; rintro e w3 ⟨rfl, b3⟩
          have m0 := k0.kept b3 (by omega)
          have m1 := k1.kept b3 (by omega)
          have m2 := k2.kept b3 (by omega)
          have mb := kb.trans (b3.mono (by omega))
          have ms := Nat.lt_of_lt_of_le ks b3.size
          clear b3
          go_wp2_with fail
          by_cases hx : -1048576 ≤ x ∧ x ≤ 1048576
          · obtain ⟨e1, e2⟩ := el_yes hel hx
            rw [e1, e2] at HRT
            obtain ⟨hx0, hx1⟩ := hx
            have HIN' := hin' hx0 hx1
            clear hin' hout e1 e2 hel
            refine (HRT.out _).mono ?_; rintro e w4 ⟨rfl, ⟨nd, rfl⟩⟩
            have c2 := m2.cell (3 * i + j) (by omega)
            have c3 := m2.free (3 * i + j)
            go_wp2
            go_roundw
            case rel => exact ⟨j + 1, _, by omega, by go_num, HDN', HIN', (m0.drewN _).setOther (by omega) _, (m1.drewN _).setOther (by omega) _, (m2.drewN _).set (3 * i + j) x, (below_drewN mb _).setCell (by show B ≤ B + 1 + 1; omega) _, by simpa [World.setCell] using ms⟩
            case measure => simp [intOf]; omega
          · obtain ⟨e1, e2⟩ := el_out hel hx
            rw [e1, e2] at HRT
            have HC := Lib.hid (hout hx)
            have HV := Lib.hid (invV_zero (m := m) (by rw [HC.out]; decide))
            clear hin' hout e1 e2 hel hx
            refine (HRT.out _).mono ?_; rintro e w4 ⟨rfl, ⟨nd, rfl⟩⟩
            have G1 := Lib.hid (m1.drewN nd)
            have GB := below_drewN mb nd
            clear m1
            go_wp2_with (first
              | (refine wpList_build_as rfl 23 _ rfl (arrN 9 fun _ => 0) (by kernel_rfl) ?_)
              | (refine wpList_store_arr rfl 23 (.tmp 2) (.tmp 38) rfl rfl rfl G1.out (arrN_size _ _) hi9 ?_))
            refine bodyPost_ret (v := .tuple #[.agg (arrN 9 fun _ => 0), .int .i64 17]) (results_arr_tmp rfl _ _ rfl rfl (holdsN_row G1.out _) Try.underlying23 hi9) rfl ?_
            exact ⟨by rw [HV.out, HC.out], by rw [HB.out]; exact below_setRow GB (by omega) _⟩
        · obtain rfl : j = 3 := by omega
          have hd' := Lib.hid hdn.out.next
          have HIN' : Hid (∀ a b, a < 3 → b < 3 → (a < i + 1 ∨ (a = i + 1 ∧ b < 0)) → -1048576 ≤ invEl m a b ∧ invEl m a b ≤ 1048576) := fun a b ha hb' hab => hin.out a b ha hb' (by omega)
          go_wp2
          go_roundw
          case rel => exact ⟨i + 1, p, by omega, by go_num, hd', HIN', k0, k1, k2, kb, ks⟩
          case measure => simp [intOf]; omega
    · obtain rfl : i = 3 := by omega
      have HC : Hid (invCode m = 0) := HIN.out (fun a ha b hb' => hin.out a b ha hb' (by omega))
      have hp : Hid (arrN 9 p = arrN 9 (invV m)) := by
        show _ = _
        unfold invV
        rw [HC.out, if_pos rfl]
        refine arrN_congr fun k hk => ?_
        have := hdn.out (k / 3) (k % 3) (by omega) (by omega) (by omega)
        rw [show posR (k / 3) (k % 3) = k by unfold posR; omega] at this
        exact this
      have G1 := Lib.hid k1
      clear k1
      go_wp2_with (first
        | (refine wpList_load_arr rfl 23 (.tmp 4) rfl rfl k2 Try.underlying23 hi9 ?_)
        | (refine wpList_store_arr rfl 23 (.tmp 2) (.tmp 45) rfl rfl rfl G1.out (arrN_size _ _) hi9 ?_))
      refine bodyPost_ret (v := .tuple #[.agg (arrN 9 p), .int .i64 0]) (results_arr_tmp rfl _ _ rfl rfl (holdsN_row G1.out _) Try.underlying23 hi9) rfl ?_
      exact ⟨by rw [hp.out, HC.out], by rw [HB.out]; exact below_setRow kb (by omega) _⟩
theorem rinverse_any (m : Nat → Int) (w : World) :
    Calls Try.prog 54 #[.agg (arrN 9 m)] w fun e w' => e = .returned (.tuple #[.agg (arrN 9 (invV m)), .int .i64 (invCode m)]) ∧ Below w.heap.size w w' := by
  by_cases h : okM m
  · by_cases hd : exactS m = 0
    · exact rinverse_zero m w h hd
    · exact rinverse_loop m w h hd
  · exact rinverse_bad m w h
end Go.Proofs.Ytlpfepcmpccbeaa.Mx
