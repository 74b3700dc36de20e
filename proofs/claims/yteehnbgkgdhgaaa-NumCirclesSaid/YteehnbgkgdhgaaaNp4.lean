/-
  The plain law of circles: sines and cosines.
-/
import Derived.Test.YteehnbgkgdhgaaaNp1
import Derived.Test.YteehnbgkgdhgaaaPNumCx1
namespace Go.Proofs.Yteehnbgkgdhgaaa.Pure
open Go.RowKit Go.Proofs.Yteehnbgkgdhgaaa.NM Go.Proofs.Yteehnbgkgdhgaaa.Spec Go.Proofs.Yteehnbgkgdhgaaa.Given Go.Proofs.Yteehnbgkgdhgaaa.PNumC Go.Proofs.YteehnbgkgdhgaaaW.PrintWords Go.Proofs.YteehnbgkgdhgaaaW.PrintLast Go.Proofs.YteehnbgkgdhgaaaW.PrintMore
set_option linter.unusedVariables false

theorem example_trueC : PNumC.imageeditorlaw01_example.f = some true := by decide +kernel

def okQ (n : Nat) : Bool :=
  decide (0 ≤ quarterS n) && decide (quarterS n ≤ 65536) &&
    decide (-2097152 ≤ quarterS n * quarterS n + quarterS (16384 - n) * quarterS (16384 - n) - 4294967296) && decide (quarterS n * quarterS n + quarterS (16384 - n) * quarterS (16384 - n) - 4294967296 ≤ 2097152)
def chk (lo : Nat) : Nat → Bool
  | 0 => true
  | n + 1 => okQ (lo + n) && chk lo n
theorem chk_spec (lo : Nat) : ∀ n, chk lo n = true → ∀ i, i < n → okQ (lo + i) = true
  | 0, _, i, hi => by omega
  | n + 1, h, i, hi => by
    simp only [chk, Bool.and_eq_true] at h
    by_cases he : i = n
    · rw [he]; exact h.1
    · exact chk_spec lo n h.2 i (by omega)
theorem chk0 : chk 0 4096 = true := by decide +kernel
theorem chk1 : chk 4096 4096 = true := by decide +kernel
theorem chk2 : chk 8192 4096 = true := by decide +kernel
theorem chk3 : chk 12288 4097 = true := by decide +kernel
theorem okQ_all (n : Nat) (h : n ≤ 16384) : okQ n = true := by
  by_cases h1 : n < 4096
  · have := chk_spec 0 4096 chk0 n h1; rwa [Nat.zero_add] at this
  · by_cases h2 : n < 8192
    · have := chk_spec 4096 4096 chk1 (n - 4096) (by omega); rwa [show 4096 + (n - 4096) = n by omega] at this
    · by_cases h3 : n < 12288
      · have := chk_spec 8192 4096 chk2 (n - 8192) (by omega); rwa [show 8192 + (n - 8192) = n by omega] at this
      · have := chk_spec 12288 4097 chk3 (n - 12288) (by omega); rwa [show 12288 + (n - 12288) = n by omega] at this
theorem quarter_facts (u : Int) (h0 : 0 ≤ u) (h1 : u ≤ 16384) : 0 ≤ quarterS u ∧ quarterS u ≤ 65536 ∧
    -2097152 ≤ quarterS u * quarterS u + quarterS (16384 - u) * quarterS (16384 - u) - 4294967296 ∧ quarterS u * quarterS u + quarterS (16384 - u) * quarterS (16384 - u) - 4294967296 ≤ 2097152 := by
  have h := okQ_all u.toNat (by omega)
  unfold okQ at h
  rw [Int.toNat_of_nonneg h0] at h
  simp only [Bool.and_eq_true, decide_eq_true_eq] at h
  exact ⟨h.1.1.1, h.1.1.2, h.1.2, h.2⟩
theorem quarter_zero : quarterS 0 = 0 := by decide +kernel

theorem sineS_0 (r : Int) (h0 : 0 ≤ r) (h1 : r < 16384) : sineS r = quarterS r := by
  unfold sineS; rw [if_pos (by omega), show r % 16384 = r by omega]
theorem sineS_1 (r : Int) (h0 : 0 ≤ r) (h1 : r < 16384) : sineS (16384 + r) = quarterS (16384 - r) := by
  unfold sineS; rw [if_neg (by omega), if_pos (by omega), show (16384 + r) % 16384 = r by omega]
theorem sineS_2 (r : Int) (h0 : 0 ≤ r) (h1 : r < 16384) : sineS (32768 + r) = -quarterS r := by
  unfold sineS; rw [if_neg (by omega), if_neg (by omega), if_pos (by omega), show (32768 + r) % 16384 = r by omega]
theorem sineS_3 (r : Int) (h0 : 0 ≤ r) (h1 : r < 16384) : sineS (49152 + r) = -quarterS (16384 - r) := by
  unfold sineS; rw [if_neg (by omega), if_neg (by omega), if_neg (by omega), show (49152 + r) % 16384 = r by omega]

theorem quads (a : Int) (h0 : 0 ≤ a) (h1 : a < 65536) : ∃ r, 0 ≤ r ∧ r < 16384 ∧ (a = r ∨ a = 16384 + r ∨ a = 32768 + r ∨ a = 49152 + r) := ⟨a % 16384, by omega, by omega, by omega⟩

theorem sine_neg (a : Int) (h0 : 0 ≤ a) (h1 : a < 65536) : sineS (-a % 65536) = -sineS a := by
  obtain ⟨r, hr0, hr1, h⟩ := quads a h0 h1
  by_cases hr : r = 0
  · subst hr
    rcases h with rfl | rfl | rfl | rfl
    · rw [show -0 % 65536 = (0 : Int) from rfl, sineS_0 0 (by omega) (by omega), quarter_zero]; rfl
    · rw [show -(16384 + 0 : Int) % 65536 = 49152 + 0 from rfl, sineS_3 0 (by omega) (by omega), sineS_1 0 (by omega) (by omega)]
    · rw [show -(32768 + 0 : Int) % 65536 = 32768 + 0 from rfl, sineS_2 0 (by omega) (by omega), quarter_zero]; rfl
    · rw [show -(49152 + 0 : Int) % 65536 = 16384 + 0 from rfl, sineS_3 0 (by omega) (by omega), sineS_1 0 (by omega) (by omega)]; omega
  · rcases h with rfl | rfl | rfl | rfl
    · rw [show -a % 65536 = 49152 + (16384 - a) by omega, sineS_3 _ (by omega) (by omega), sineS_0 _ hr0 hr1, show 16384 - (16384 - a) = a by omega]
    · rw [show -(16384 + r) % 65536 = 32768 + (16384 - r) by omega, sineS_2 _ (by omega) (by omega), sineS_1 _ hr0 hr1]
    · rw [show -(32768 + r) % 65536 = 16384 + (16384 - r) by omega, sineS_1 _ (by omega) (by omega), sineS_2 _ hr0 hr1, show 16384 - (16384 - r) = r by omega]; omega
    · rw [show -(49152 + r) % 65536 = 16384 - r by omega, sineS_0 _ (by omega) (by omega), sineS_3 _ hr0 hr1]; omega
theorem sine_flip (a : Int) (h0 : 0 ≤ a) (h1 : a < 65536) : sineS ((32768 - a) % 65536) = sineS a := by
  obtain ⟨r, hr0, hr1, h⟩ := quads a h0 h1
  by_cases hr : r = 0
  · subst hr
    rcases h with rfl | rfl | rfl | rfl
    · rw [show (32768 - 0 : Int) % 65536 = 32768 + 0 from rfl, sineS_2 0 (by omega) (by omega), sineS_0 0 (by omega) (by omega), quarter_zero]; rfl
    · rfl
    · rw [show (32768 - (32768 + 0) : Int) % 65536 = 0 from rfl, sineS_2 0 (by omega) (by omega), sineS_0 0 (by omega) (by omega), quarter_zero]; rfl
    · rfl
  · rcases h with rfl | rfl | rfl | rfl
    · rw [show (32768 - a) % 65536 = 16384 + (16384 - a) by omega, sineS_1 _ (by omega) (by omega), sineS_0 _ hr0 hr1, show 16384 - (16384 - a) = a by omega]
    · rw [show (32768 - (16384 + r)) % 65536 = 16384 - r by omega, sineS_0 _ (by omega) (by omega), sineS_1 _ hr0 hr1]
    · rw [show (32768 - (32768 + r)) % 65536 = 49152 + (16384 - r) by omega, sineS_3 _ (by omega) (by omega), sineS_2 _ hr0 hr1, show 16384 - (16384 - r) = r by omega]
    · rw [show (32768 - (49152 + r)) % 65536 = 32768 + (16384 - r) by omega, sineS_2 _ (by omega) (by omega), sineS_3 _ hr0 hr1]
theorem circle_facts (a : Int) (h0 : 0 ≤ a) (h1 : a < 65536) : -65536 ≤ sineS a ∧ sineS a ≤ 65536 ∧ -65536 ≤ sineS ((a + 16384) % 65536) ∧ sineS ((a + 16384) % 65536) ≤ 65536 ∧
    -2097152 ≤ sineS a * sineS a + sineS ((a + 16384) % 65536) * sineS ((a + 16384) % 65536) - 4294967296 ∧ sineS a * sineS a + sineS ((a + 16384) % 65536) * sineS ((a + 16384) % 65536) - 4294967296 ≤ 2097152 := by
  obtain ⟨r, hr0, hr1, h⟩ := quads a h0 h1
  obtain ⟨q1, q2, q3, q4⟩ := quarter_facts r hr0 (by omega)
  obtain ⟨p1, p2, _, _⟩ := quarter_facts (16384 - r) (by omega) (by omega)
  rcases h with rfl | rfl | rfl | rfl
  · rw [show (a + 16384) % 65536 = 16384 + a by omega, sineS_0 _ hr0 hr1, sineS_1 _ hr0 hr1]; exact ⟨by omega, by omega, by omega, by omega, by omega, by omega⟩
  · rw [show (16384 + r + 16384) % 65536 = 32768 + r by omega, sineS_1 _ hr0 hr1, sineS_2 _ hr0 hr1, Int.neg_mul_neg]; exact ⟨by omega, by omega, by omega, by omega, by omega, by omega⟩
  · rw [show (32768 + r + 16384) % 65536 = 49152 + r by omega, sineS_2 _ hr0 hr1, sineS_3 _ hr0 hr1, Int.neg_mul_neg, Int.neg_mul_neg]; exact ⟨by omega, by omega, by omega, by omega, by omega, by omega⟩
  · rw [show (49152 + r + 16384) % 65536 = r by omega, sineS_3 _ hr0 hr1, sineS_0 _ hr0 hr1, Int.neg_mul_neg]; exact ⟨by omega, by omega, by omega, by omega, by omega, by omega⟩

theorem NumCircles : imageeditorlaw01_NumCircles.Pure := by
  intro a wa
  have ha := wf_i64 wa
  refine ⟨1, ?_⟩
  have ha0 : 0 ≤ a % 65536 := by omega
  have ha1 : a % 65536 < 65536 := by omega
  obtain ⟨s1, s2, c1, c2, d1, d2⟩ := circle_facts (a % 65536) ha0 ha1
  have hn := sine_neg (a % 65536) ha0 ha1
  have hc0 : 0 ≤ (a + 16384) % 65536 := by omega
  have hc1 : (a + 16384) % 65536 < 65536 := by omega
  have hf := sine_flip ((a + 16384) % 65536) hc0 hc1
  rw [show (a % 65536 + 16384) % 65536 = (a + 16384) % 65536 by omega] at c1 c2 d1 d2
  have in1 : I64 (wrap64 (-a)) := by unfold I64 wrap64; omega
  have in2 : I64 (wrap64 (a + 65536)) := by unfold I64 wrap64; omega
  have e1 : wrap64 (-a) % 65536 = -(a % 65536) % 65536 := by unfold wrap64; omega
  have e2 : (wrap64 (-a) + 16384) % 65536 = (32768 - (a + 16384) % 65536) % 65536 := by unfold wrap64; omega
  have e3 : wrap64 (a + 65536) % 65536 = a % 65536 := by unfold wrap64; omega
  have e4 : (wrap64 (a + 65536) + 16384) % 65536 = (a + 16384) % 65536 := by unfold wrap64; omega
  have t1 : num_Turn.f a = some (sineS (a % 65536), sineS ((a + 16384) % 65536)) := by unfold num_Turn.f; rw [if_pos ha]
  have t2 : num_Turn.f (wrap64 (-a)) = some (-sineS (a % 65536), sineS ((a + 16384) % 65536)) := by unfold num_Turn.f; rw [if_pos in1, e1, e2, hn, hf]
  have t3 : num_Turn.f (wrap64 (a + 65536)) = some (sineS (a % 65536), sineS ((a + 16384) % 65536)) := by unfold num_Turn.f; rw [if_pos in2, e3, e4]
  generalize sineS (a % 65536) = s at *
  generalize sineS ((a + 16384) % 65536) = c at *
  have sq : ∀ x : Int, -65536 ≤ x → x ≤ 65536 → 0 ≤ x * x ∧ x * x ≤ 4294967296 := by
    intro x h1 h2
    have h3 : x * x = mag x * mag x := (mag_sq x).symm
    have h4 := mag_nonneg x
    have h5 : mag x ≤ 65536 := by unfold mag; split <;> omega
    rw [h3]
    refine ⟨Int.mul_nonneg h4 h4, ?_⟩
    have := Int.mul_le_mul h5 h5 h4 (by omega)
    omega
  have hs := sq s s1 s2
  have hc := sq c c1 c2
  unfold imageeditorlaw01_NumCircles.f
  rw [t1, Option.bind_some]
  dsimp only
  rw [if_neg (by omega), if_neg (by omega), if_neg (by omega), decide_eq_false (by omega), imageeditorlaw01_NumCircles.j0, if_neg (by decide), t2, Option.bind_some, t3, Option.bind_some]
  dsimp only
  rw [w64' (x := s * s) (by omega) (by omega), w64' (x := c * c) (by omega) (by omega), w64' (x := s * s + c * c) (by omega) (by omega), w64' (x := s * s + c * c - 4294967296) (by omega) (by omega), w64' (x := -(s * s + c * c - 4294967296)) (by omega) (by omega), mx_max, w64' (x := -s) (by omega) (by omega)]
  rw [if_pos (by omega), if_pos rfl, if_pos rfl, if_pos rfl, if_pos rfl, example_trueC, Option.bind_some]
end Go.Proofs.Yteehnbgkgdhgaaa.Pure
