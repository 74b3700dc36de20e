-- Written by the kit's print.py, called by wip/print-all.sh over several laws at once.
import Derived.Test.YteehnbgkgdhgaaaPNumx0
import Derived.Test.YteehnbgkgdhgaaaPNumx1
import Derived.Test.YteehnbgkgdhgaaaPNumx2
namespace Go.Proofs.Yteehnbgkgdhgaaa.PNum
open Go.RowKit Go.Proofs.YteehnbgkgdhgaaaW.PrintWords Go.Proofs.YteehnbgkgdhgaaaW.PrintLast Go.Proofs.YteehnbgkgdhgaaaW.PrintMore
attribute [local go_sem] max2_int min2_int max_two min_two max_three min_three max_four min_four   -- for this text's walks alone
set_option linter.unusedVariables false
set_option linter.unusedSimpArgs false

/-! ### imageeditorref01_Sqrt: function 49 -/
def imageeditorref01_Sqrt.l0 : Nat → Int → Int → Int → Option (Int)
  | 0, _, _, _ => none
  | k + 1, x0, x3, x4 => if x4 > 0 then (if (wrap64 (x3 + x4)) ≤ 3037000499 then (if (wrap64 ((wrap64 (x3 + x4)) * (wrap64 (x3 + x4)))) ≤ x0 then (imageeditorref01_Sqrt.l0 k x0 (wrap64 (x3 + x4)) (x4 / 2)) else (imageeditorref01_Sqrt.l0 k x0 x3 (x4 / 2))) else (imageeditorref01_Sqrt.l0 k x0 x3 (x4 / 2))) else (some x3)
def imageeditorref01_Sqrt.f (k : Nat) (a0 : Int) : Option (Int) := if a0 < 0 then (some 0) else (imageeditorref01_Sqrt.l0 k a0 0 2147483648)
theorem imageeditorref01_Sqrt.mono_l : ∀ k, (∀ y0 y1 y2, LeO (imageeditorref01_Sqrt.l0 k y0 y1 y2) (imageeditorref01_Sqrt.l0 (k + 1) y0 y1 y2))
  | 0 => fun _ _ _ r h => by simp [imageeditorref01_Sqrt.l0] at h
  | k + 1 => by
    have ih0 := imageeditorref01_Sqrt.mono_l k
    · intro y0 y1 y2
      unfold imageeditorref01_Sqrt.l0
      repeat' first
      | (with_reducible exact ih0 _ _ _)
      | (with_reducible exact LeO.refl _)
      | (with_reducible exact LeO.none _)
      | (with_reducible refine LeO.ite ?_ ?_)
      | (with_reducible refine LeO.bind ?_ (fun _ => ?_))
      | exact ih0 _ _ _
      | exact LeO.none _
      | refine LeO.ite ?_ ?_
      | refine LeO.bind ?_ (fun _ => ?_)
theorem imageeditorref01_Sqrt.mono : ∀ a0 k, LeO (imageeditorref01_Sqrt.f k a0) (imageeditorref01_Sqrt.f (k + 1) a0) := by
  intro a0 k
  have ih0 := imageeditorref01_Sqrt.mono_l k
  unfold imageeditorref01_Sqrt.f
  repeat' first
      | (with_reducible exact ih0 _ _ _)
      | (with_reducible exact LeO.refl _)
      | (with_reducible exact LeO.none _)
      | (with_reducible refine LeO.ite ?_ ?_)
      | (with_reducible refine LeO.bind ?_ (fun _ => ?_))
      | exact ih0 _ _ _
      | exact LeO.none _
      | refine LeO.ite ?_ ?_
      | refine LeO.bind ?_ (fun _ => ?_)
set_option maxHeartbeats 8000000 in
set_option maxRecDepth 100000 in
theorem imageeditorref01_Sqrt.calls (k : Nat) (a0 : Int) (r : Int) (w : World) (h : imageeditorref01_Sqrt.f k a0 = some r) :
    Calls Try.prog 49 #[.int .i64 a0] w fun e w' => e = .returned (.int .i64 r) ∧ Drawn0 w w' := by
  have H : (if a0 < 0 then (some 0) else (imageeditorref01_Sqrt.l0 k a0 0 2147483648)) = some r := h
  clear h
  by_cases c2 : a0 < 0
  · rw [if_pos c2] at H
    have c2b0 : decide (a0 < 0) = true := decide_eq_true c2
    clear c2
    obtain rfl := Option.some.inj H
    go_enter Try.func49, Try.ntmps49
    go_wp2
    go_ret
    exact ⟨by first | rfl | (simp; done) | (simp [*]; done), by repeat (first | exact Drawn0.refl _ | apply Drawn0.step)⟩
  · rw [if_neg c2] at H
    have c2b0 : decide (a0 < 0) = false := decide_eq_false c2
    clear c2
    have H' := Aside0.mk H
    clear H
    go_enter Try.func49, Try.ntmps49
    go_wp2
    go_loopg [3, 4] k (fun kq v3 v4 w' => ∃ (x3_1 : Int) (x4_1 : Int), v3 = .int .i64 x3_1 ∧ v4 = .int .i64 x4_1 ∧ Aside0 (imageeditorref01_Sqrt.l0 kq a0 x3_1 x4_1 = some r) ∧ Aside0 (kq ≤ k) ∧ Drawn0 w w')
    case atStart => exact ⟨(0), (2147483648), (by first | rfl | (simp; done) | (simp [*]; done)), (by first | rfl | (simp; done) | (simp [*]; done)), H', ⟨Nat.le_refl _⟩, by repeat (first | exact Drawn0.refl _ | apply Drawn0.step)⟩
    case round =>
      clear H'
      try clear c2
      try clear c2b0
      try clear p2
      obtain ⟨x3_1, x4_1, rfl, rfl, HA, HK1, ⟨m1, rfl⟩⟩ := hrel
      cases gk with
      | zero => exact absurd HA.out (by simp [imageeditorref01_Sqrt.l0])
      | succ k1 =>
        have H := HA.out
        clear HA
        simp only [imageeditorref01_Sqrt.l0] at H
        by_cases c3 : x4_1 > 0
        · rw [if_pos c3] at H
          have c3b0 : decide (0 < x4_1) = true := decide_eq_true c3
          clear c3
          by_cases c4 : (wrap64 (x3_1 + x4_1)) ≤ 3037000499
          · rw [if_pos c4] at H
            have c4b0 : decide ((wrap64 (x3_1 + x4_1)) ≤ 3037000499) = true := decide_eq_true c4
            clear c4
            by_cases c5 : (wrap64 ((wrap64 (x3_1 + x4_1)) * (wrap64 (x3_1 + x4_1)))) ≤ a0
            · rw [if_pos c5] at H
              have c5b0 : decide ((wrap64 ((wrap64 (x3_1 + x4_1)) * (wrap64 (x3_1 + x4_1)))) ≤ a0) = true := decide_eq_true c5
              clear c5
              have H' := Aside0.mk H
              clear H
              go_wp2
              go_roundg k1
              case measure => have := HK1.out; omega
              case rel => exact ⟨(wrap64 (x3_1 + x4_1)), (x4_1 / 2), (by first | rfl | (simp; done) | (simp [*]; done)), (by first | rfl | (simp; done) | (simp [*]; done)), H', ⟨by have := HK1.out; omega⟩, by repeat (first | exact Drawn0.refl _ | apply Drawn0.step)⟩
            · rw [if_neg c5] at H
              have c5b0 : decide ((wrap64 ((wrap64 (x3_1 + x4_1)) * (wrap64 (x3_1 + x4_1)))) ≤ a0) = false := decide_eq_false c5
              clear c5
              have H' := Aside0.mk H
              clear H
              go_wp2
              go_roundg k1
              case measure => have := HK1.out; omega
              case rel => exact ⟨(x3_1), (x4_1 / 2), (by first | rfl | (simp; done) | (simp [*]; done)), (by first | rfl | (simp; done) | (simp [*]; done)), H', ⟨by have := HK1.out; omega⟩, by repeat (first | exact Drawn0.refl _ | apply Drawn0.step)⟩
          · rw [if_neg c4] at H
            have c4b0 : decide ((wrap64 (x3_1 + x4_1)) ≤ 3037000499) = false := decide_eq_false c4
            clear c4
            have H' := Aside0.mk H
            clear H
            go_wp2
            go_roundg k1
            case measure => have := HK1.out; omega
            case rel => exact ⟨(x3_1), (x4_1 / 2), (by first | rfl | (simp; done) | (simp [*]; done)), (by first | rfl | (simp; done) | (simp [*]; done)), H', ⟨by have := HK1.out; omega⟩, by repeat (first | exact Drawn0.refl _ | apply Drawn0.step)⟩
        · rw [if_neg c3] at H
          have c3b0 : decide (0 < x4_1) = false := decide_eq_false c3
          clear c3
          obtain rfl := Option.some.inj H
          go_wp2
          go_ret
          exact ⟨by first | rfl | (simp; done) | (simp [*]; done), by repeat (first | exact Drawn0.refl _ | apply Drawn0.step)⟩

/-! ### imageeditorref01_Hypot: function 51 -/
mutual
def imageeditorref01_Hypot.j0 : Nat → Int → Int → Option (Int)
  | 0, _, _ => none
  | k + 1, x9, x10 => imageeditorref01_Hypot.l0 k x9 x10 0 9223372036854775808
def imageeditorref01_Hypot.l0 : Nat → Int → Int → Int → Int → Option (Int)
  | 0, _, _, _, _ => none
  | k + 1, x9, x10, x11, x12 => if x12 > 0 then ((imageeditorref01_Product.f (Go.bits .or .u64 x11 x12) (Go.bits .or .u64 x11 x12)).bind fun bt146 => (if bt146.1 < x10 then (imageeditorref01_Hypot.l0 k x9 x10 (Go.bits .or .u64 x11 x12) (x12 / 2)) else (if bt146.1 = x10 then (if bt146.2 ≤ x9 then (imageeditorref01_Hypot.l0 k x9 x10 (Go.bits .or .u64 x11 x12) (x12 / 2)) else (imageeditorref01_Hypot.l0 k x9 x10 x11 (x12 / 2))) else (imageeditorref01_Hypot.l0 k x9 x10 x11 (x12 / 2))))) else ((imageeditorref01_signed.f k 0 x11 false).bind fun t148 => (some t148))
end
def imageeditorref01_Hypot.f (k : Nat) (a0 : Int) (a1 : Int) : Option (Int) := (imageeditorref01_Abs.f a0).bind fun t138 => ((imageeditorref01_Abs.f a0).bind fun t139 => ((imageeditorref01_Product.f t138 t139).bind fun bt140 => ((imageeditorref01_Abs.f a1).bind fun t142 => ((imageeditorref01_Abs.f a1).bind fun t143 => ((imageeditorref01_Product.f t142 t143).bind fun bt144 => (if (IntKind.u64.wrap (bt140.2 + bt144.2)) < bt140.2 then (imageeditorref01_Hypot.j0 k (IntKind.u64.wrap (bt140.2 + bt144.2)) (IntKind.u64.wrap ((IntKind.u64.wrap (bt140.1 + bt144.1)) + 1))) else (imageeditorref01_Hypot.j0 k (IntKind.u64.wrap (bt140.2 + bt144.2)) (IntKind.u64.wrap (bt140.1 + bt144.1)))))))))
theorem imageeditorref01_Hypot.mono_l : ∀ k, (∀ y0 y1, LeO (imageeditorref01_Hypot.j0 k y0 y1) (imageeditorref01_Hypot.j0 (k + 1) y0 y1)) ∧ (∀ y0 y1 y2 y3, LeO (imageeditorref01_Hypot.l0 k y0 y1 y2 y3) (imageeditorref01_Hypot.l0 (k + 1) y0 y1 y2 y3))
  | 0 => ⟨fun _ _ r h => by simp [imageeditorref01_Hypot.j0] at h, fun _ _ _ _ r h => by simp [imageeditorref01_Hypot.l0] at h⟩
  | k + 1 => by
    obtain ⟨ih0, ih1⟩ := imageeditorref01_Hypot.mono_l k
    refine ⟨?_, ?_⟩
    · intro y0 y1
      unfold imageeditorref01_Hypot.j0
      repeat' first
      | (with_reducible exact ih0 _ _)
      | (with_reducible exact ih1 _ _ _ _)
      | (with_reducible exact imageeditorref01_signed.mono _ _ _ _)
      | (with_reducible exact LeO.refl _)
      | (with_reducible exact LeO.none _)
      | (with_reducible refine LeO.ite ?_ ?_)
      | (with_reducible refine LeO.bind ?_ (fun _ => ?_))
      | exact ih0 _ _
      | exact ih1 _ _ _ _
      | exact imageeditorref01_signed.mono _ _ _ _
      | exact LeO.none _
      | refine LeO.ite ?_ ?_
      | refine LeO.bind ?_ (fun _ => ?_)
    · intro y0 y1 y2 y3
      unfold imageeditorref01_Hypot.l0
      repeat' first
      | (with_reducible exact ih0 _ _)
      | (with_reducible exact ih1 _ _ _ _)
      | (with_reducible exact imageeditorref01_signed.mono _ _ _ _)
      | (with_reducible exact LeO.refl _)
      | (with_reducible exact LeO.none _)
      | (with_reducible refine LeO.ite ?_ ?_)
      | (with_reducible refine LeO.bind ?_ (fun _ => ?_))
      | exact ih0 _ _
      | exact ih1 _ _ _ _
      | exact imageeditorref01_signed.mono _ _ _ _
      | exact LeO.none _
      | refine LeO.ite ?_ ?_
      | refine LeO.bind ?_ (fun _ => ?_)
theorem imageeditorref01_Hypot.mono : ∀ a0 a1 k, LeO (imageeditorref01_Hypot.f k a0 a1) (imageeditorref01_Hypot.f (k + 1) a0 a1) := by
  intro a0 a1 k
  obtain ⟨ih0, ih1⟩ := imageeditorref01_Hypot.mono_l k
  unfold imageeditorref01_Hypot.f
  repeat' first
      | (with_reducible exact ih0 _ _)
      | (with_reducible exact ih1 _ _ _ _)
      | (with_reducible exact imageeditorref01_signed.mono _ _ _ _)
      | (with_reducible exact LeO.refl _)
      | (with_reducible exact LeO.none _)
      | (with_reducible refine LeO.ite ?_ ?_)
      | (with_reducible refine LeO.bind ?_ (fun _ => ?_))
      | exact ih0 _ _
      | exact ih1 _ _ _ _
      | exact imageeditorref01_signed.mono _ _ _ _
      | exact LeO.none _
      | refine LeO.ite ?_ ?_
      | refine LeO.bind ?_ (fun _ => ?_)
set_option maxHeartbeats 8000000 in
set_option maxRecDepth 100000 in
theorem imageeditorref01_Hypot.calls (k : Nat) (a0 : Int) (a1 : Int) (r : Int) (w : World) (h : imageeditorref01_Hypot.f k a0 a1 = some r) :
    Calls Try.prog 51 #[.int .i64 a0, .int .i64 a1] w fun e w' => e = .returned (.int .i64 r) ∧ Drawn0 w w' := by
  have H : ((imageeditorref01_Abs.f a0).bind fun t138 => ((imageeditorref01_Abs.f a0).bind fun t139 => ((imageeditorref01_Product.f t138 t139).bind fun bt140 => ((imageeditorref01_Abs.f a1).bind fun t142 => ((imageeditorref01_Abs.f a1).bind fun t143 => ((imageeditorref01_Product.f t142 t143).bind fun bt144 => (if (IntKind.u64.wrap (bt140.2 + bt144.2)) < bt140.2 then (imageeditorref01_Hypot.j0 k (IntKind.u64.wrap (bt140.2 + bt144.2)) (IntKind.u64.wrap ((IntKind.u64.wrap (bt140.1 + bt144.1)) + 1))) else (imageeditorref01_Hypot.j0 k (IntKind.u64.wrap (bt140.2 + bt144.2)) (IntKind.u64.wrap (bt140.1 + bt144.1)))))))))) = some r := h
  clear h
  replace H := Option.bind_eq_some_iff.mp H
  obtain ⟨t138, A30, H⟩ := H
  replace H : ((imageeditorref01_Abs.f a0).bind fun t139 => ((imageeditorref01_Product.f t138 t139).bind fun bt140 => ((imageeditorref01_Abs.f a1).bind fun t142 => ((imageeditorref01_Abs.f a1).bind fun t143 => ((imageeditorref01_Product.f t142 t143).bind fun bt144 => (if (IntKind.u64.wrap (bt140.2 + bt144.2)) < bt140.2 then (imageeditorref01_Hypot.j0 k (IntKind.u64.wrap (bt140.2 + bt144.2)) (IntKind.u64.wrap ((IntKind.u64.wrap (bt140.1 + bt144.1)) + 1))) else (imageeditorref01_Hypot.j0 k (IntKind.u64.wrap (bt140.2 + bt144.2)) (IntKind.u64.wrap (bt140.1 + bt144.1))))))))) = some r := H
  have A3 := Aside0.mk A30
  clear A30
  replace H := Option.bind_eq_some_iff.mp H
  obtain ⟨t139, A40, H⟩ := H
  replace H : ((imageeditorref01_Product.f t138 t139).bind fun bt140 => ((imageeditorref01_Abs.f a1).bind fun t142 => ((imageeditorref01_Abs.f a1).bind fun t143 => ((imageeditorref01_Product.f t142 t143).bind fun bt144 => (if (IntKind.u64.wrap (bt140.2 + bt144.2)) < bt140.2 then (imageeditorref01_Hypot.j0 k (IntKind.u64.wrap (bt140.2 + bt144.2)) (IntKind.u64.wrap ((IntKind.u64.wrap (bt140.1 + bt144.1)) + 1))) else (imageeditorref01_Hypot.j0 k (IntKind.u64.wrap (bt140.2 + bt144.2)) (IntKind.u64.wrap (bt140.1 + bt144.1)))))))) = some r := H
  have A4 := Aside0.mk A40
  clear A40
  replace H := Option.bind_eq_some_iff.mp H
  obtain ⟨⟨t140, t141⟩, A50, H⟩ := H
  replace H : ((imageeditorref01_Abs.f a1).bind fun t142 => ((imageeditorref01_Abs.f a1).bind fun t143 => ((imageeditorref01_Product.f t142 t143).bind fun bt144 => (if (IntKind.u64.wrap (t141 + bt144.2)) < t141 then (imageeditorref01_Hypot.j0 k (IntKind.u64.wrap (t141 + bt144.2)) (IntKind.u64.wrap ((IntKind.u64.wrap (t140 + bt144.1)) + 1))) else (imageeditorref01_Hypot.j0 k (IntKind.u64.wrap (t141 + bt144.2)) (IntKind.u64.wrap (t140 + bt144.1))))))) = some r := H
  have A5 := Aside0.mk A50
  clear A50
  replace H := Option.bind_eq_some_iff.mp H
  obtain ⟨t142, A60, H⟩ := H
  replace H : ((imageeditorref01_Abs.f a1).bind fun t143 => ((imageeditorref01_Product.f t142 t143).bind fun bt144 => (if (IntKind.u64.wrap (t141 + bt144.2)) < t141 then (imageeditorref01_Hypot.j0 k (IntKind.u64.wrap (t141 + bt144.2)) (IntKind.u64.wrap ((IntKind.u64.wrap (t140 + bt144.1)) + 1))) else (imageeditorref01_Hypot.j0 k (IntKind.u64.wrap (t141 + bt144.2)) (IntKind.u64.wrap (t140 + bt144.1)))))) = some r := H
  have A6 := Aside0.mk A60
  clear A60
  replace H := Option.bind_eq_some_iff.mp H
  obtain ⟨t143, A70, H⟩ := H
  replace H : ((imageeditorref01_Product.f t142 t143).bind fun bt144 => (if (IntKind.u64.wrap (t141 + bt144.2)) < t141 then (imageeditorref01_Hypot.j0 k (IntKind.u64.wrap (t141 + bt144.2)) (IntKind.u64.wrap ((IntKind.u64.wrap (t140 + bt144.1)) + 1))) else (imageeditorref01_Hypot.j0 k (IntKind.u64.wrap (t141 + bt144.2)) (IntKind.u64.wrap (t140 + bt144.1))))) = some r := H
  have A7 := Aside0.mk A70
  clear A70
  replace H := Option.bind_eq_some_iff.mp H
  obtain ⟨⟨t144, t145⟩, A80, H⟩ := H
  replace H : (if (IntKind.u64.wrap (t141 + t145)) < t141 then (imageeditorref01_Hypot.j0 k (IntKind.u64.wrap (t141 + t145)) (IntKind.u64.wrap ((IntKind.u64.wrap (t140 + t144)) + 1))) else (imageeditorref01_Hypot.j0 k (IntKind.u64.wrap (t141 + t145)) (IntKind.u64.wrap (t140 + t144)))) = some r := H
  have A8 := Aside0.mk A80
  clear A80
  have HC9 := Aside0.mk H
  clear H
  go_enter Try.func51, Try.ntmps51
  go_upto_if 39 with (first | ((with_reducible refine gate_callee (f := 56) rfl ?_); refine goesL_ (some 17) rfl rfl Try.func56 (by kernel_rfl) rfl #[.int .i64 a0] rfl (by (try simp only [List.map_toArray, List.map_cons, List.map_nil]); first | done | rfl | (simp only [List.length_drop, List.length_take]; rfl)) ?_; (with_reducible refine (imageeditorref01_Abs.calls a0 t138 _ A3.out).mono ?_); rintro e w' ⟨rfl, ⟨nd, rfl⟩⟩; refine ⟨_, rfl, ?_⟩) | ((with_reducible refine gate_callee (f := 56) rfl ?_); refine goesL_ (some 19) rfl rfl Try.func56 (by kernel_rfl) rfl #[.int .i64 a0] rfl (by (try simp only [List.map_toArray, List.map_cons, List.map_nil]); first | done | rfl | (simp only [List.length_drop, List.length_take]; rfl)) ?_; (with_reducible refine (imageeditorref01_Abs.calls a0 t139 _ A4.out).mono ?_); rintro e w' ⟨rfl, ⟨nd, rfl⟩⟩; refine ⟨_, rfl, ?_⟩) | ((with_reducible refine gate_callee (f := 55) rfl ?_); refine goesL_ (some 20) rfl rfl Try.func55 (by kernel_rfl) rfl #[.int .u64 t138, .int .u64 t139] rfl (by (try simp only [List.map_toArray, List.map_cons, List.map_nil]); first | done | rfl | (simp only [List.length_drop, List.length_take]; rfl)) ?_; (with_reducible refine (imageeditorref01_Product.calls t138 t139 t140 t141 _ A5.out).mono ?_); rintro e w' ⟨rfl, ⟨nd, rfl⟩⟩; refine ⟨_, rfl, ?_⟩) | ((with_reducible refine gate_callee (f := 56) rfl ?_); refine goesL_ (some 25) rfl rfl Try.func56 (by kernel_rfl) rfl #[.int .i64 a1] rfl (by (try simp only [List.map_toArray, List.map_cons, List.map_nil]); first | done | rfl | (simp only [List.length_drop, List.length_take]; rfl)) ?_; (with_reducible refine (imageeditorref01_Abs.calls a1 t142 _ A6.out).mono ?_); rintro e w' ⟨rfl, ⟨nd, rfl⟩⟩; refine ⟨_, rfl, ?_⟩) | ((with_reducible refine gate_callee (f := 56) rfl ?_); refine goesL_ (some 27) rfl rfl Try.func56 (by kernel_rfl) rfl #[.int .i64 a1] rfl (by (try simp only [List.map_toArray, List.map_cons, List.map_nil]); first | done | rfl | (simp only [List.length_drop, List.length_take]; rfl)) ?_; (with_reducible refine (imageeditorref01_Abs.calls a1 t143 _ A7.out).mono ?_); rintro e w' ⟨rfl, ⟨nd, rfl⟩⟩; refine ⟨_, rfl, ?_⟩) | ((with_reducible refine gate_callee (f := 55) rfl ?_); refine goesL_ (some 28) rfl rfl Try.func55 (by kernel_rfl) rfl #[.int .u64 t142, .int .u64 t143] rfl (by (try simp only [List.map_toArray, List.map_cons, List.map_nil]); first | done | rfl | (simp only [List.length_drop, List.length_take]; rfl)) ?_; (with_reducible refine (imageeditorref01_Product.calls t142 t143 t144 t145 _ A8.out).mono ?_); rintro e w' ⟨rfl, ⟨nd, rfl⟩⟩; refine ⟨_, rfl, ?_⟩))
  (try simp only [Act.put, List.setIfInBounds_toArray, List.set_cons_zero, List.set_cons_succ])
  go_cut [10] (fun v10 wc => ∃ (kq : Nat) (x10_8 : Int), v10 = .int .u64 x10_8 ∧ Aside0 (imageeditorref01_Hypot.j0 kq (IntKind.u64.wrap (t141 + t145)) x10_8 = some r) ∧ Aside0 (kq ≤ k) ∧ Drawn0 w wc)
  case first =>
    have H := HC9.out
    clear HC9
    by_cases c10 : (IntKind.u64.wrap (t141 + t145)) < t141
    · rw [if_pos c10] at H
      have c10b0 : decide ((IntKind.u64.wrap (t141 + t145)) < t141) = true := decide_eq_true c10
      clear c10
      (first | rw [c10b0] | (simp only [i64_w, i32_w]; rw [c10b0]) | skip)
      have H' := Aside0.mk H
      clear H
      go_wp2
      go_meet
      case rel => exact ⟨_, (IntKind.u64.wrap ((IntKind.u64.wrap (t140 + t144)) + 1)), (by first | rfl | (simp; done) | (simp [*]; done)), H', ⟨by first | omega | exact Nat.le_refl _⟩, by repeat (first | exact Drawn0.refl _ | apply Drawn0.step)⟩
    · rw [if_neg c10] at H
      have c10b0 : decide ((IntKind.u64.wrap (t141 + t145)) < t141) = false := decide_eq_false c10
      clear c10
      (first | rw [c10b0] | (simp only [i64_w, i32_w]; rw [c10b0]) | skip)
      have H' := Aside0.mk H
      clear H
      go_wp2
      go_meet
      case rel => exact ⟨_, (IntKind.u64.wrap (t140 + t144)), (by first | rfl | (simp; done) | (simp [*]; done)), H', ⟨by first | omega | exact Nat.le_refl _⟩, by repeat (first | exact Drawn0.refl _ | apply Drawn0.step)⟩
  case rest =>
    clear HC9
    try clear c1
    try clear p2
    try clear c5
    try clear c10
    try clear c10b0
    obtain ⟨kq, x10_8, rfl, HA, HJ8, ⟨mc8, rfl⟩⟩ := hcut
    cases kq with
    | zero => exact absurd HA.out (by simp [imageeditorref01_Hypot.j0])
    | succ kj8 =>
      have H := HA.out
      clear HA
      simp only [imageeditorref01_Hypot.j0] at H
      have H' := Aside0.mk H
      clear H
      go_wp2
      go_loopg [11, 12] kj8 (fun kq v11 v12 w' => ∃ (x11_2 : Int) (x12_2 : Int), v11 = .int .u64 x11_2 ∧ v12 = .int .u64 x12_2 ∧ Aside0 (imageeditorref01_Hypot.l0 kq (IntKind.u64.wrap (t141 + t145)) x10_8 x11_2 x12_2 = some r) ∧ Aside0 (kq ≤ kj8) ∧ Drawn0 w w')
      case atStart => exact ⟨(0), (9223372036854775808), (by first | rfl | (simp; done) | (simp [*]; done)), (by first | rfl | (simp; done) | (simp [*]; done)), H', ⟨Nat.le_refl _⟩, by repeat (first | exact Drawn0.refl _ | apply Drawn0.step)⟩
      case round =>
        clear H'
        try clear c1
        try clear p2
        try clear c5
        try clear c8
        try clear c10
        try clear c10b0
        try clear p2
        obtain ⟨x11_2, x12_2, rfl, rfl, HA, HK2, ⟨m2, rfl⟩⟩ := hrel
        cases gk with
        | zero => exact absurd HA.out (by simp [imageeditorref01_Hypot.l0])
        | succ k2 =>
          have H := HA.out
          clear HA
          simp only [imageeditorref01_Hypot.l0] at H
          by_cases c11 : x12_2 > 0
          · rw [if_pos c11] at H
            have c11b0 : decide (0 < x12_2) = true := decide_eq_true c11
            clear c11
            replace H := Option.bind_eq_some_iff.mp H
            obtain ⟨⟨t146, t147⟩, A120, H⟩ := H
            replace H : (if t146 < x10_8 then (imageeditorref01_Hypot.l0 k2 (IntKind.u64.wrap (t141 + t145)) x10_8 (Go.bits .or .u64 x11_2 x12_2) (x12_2 / 2)) else (if t146 = x10_8 then (if t147 ≤ (IntKind.u64.wrap (t141 + t145)) then (imageeditorref01_Hypot.l0 k2 (IntKind.u64.wrap (t141 + t145)) x10_8 (Go.bits .or .u64 x11_2 x12_2) (x12_2 / 2)) else (imageeditorref01_Hypot.l0 k2 (IntKind.u64.wrap (t141 + t145)) x10_8 x11_2 (x12_2 / 2))) else (imageeditorref01_Hypot.l0 k2 (IntKind.u64.wrap (t141 + t145)) x10_8 x11_2 (x12_2 / 2)))) = some r := H
            have A12 := Aside0.mk A120
            clear A120
            by_cases c13 : t146 < x10_8
            · rw [if_pos c13] at H
              have c13b0 : decide (t146 < x10_8) = true := decide_eq_true c13
              clear c13
              have H' := Aside0.mk H
              clear H
              go_wp2_with (first | ((with_reducible refine gate_callee (f := 55) rfl ?_); refine goesL_ (some 53) rfl rfl Try.func55 (by kernel_rfl) rfl #[.int .u64 (Go.bits .or .u64 x11_2 x12_2), .int .u64 (Go.bits .or .u64 x11_2 x12_2)] rfl (by (try simp only [List.map_toArray, List.map_cons, List.map_nil]); first | done | rfl | (simp only [List.length_drop, List.length_take]; rfl)) ?_; (with_reducible refine (imageeditorref01_Product.calls (Go.bits .or .u64 x11_2 x12_2) (Go.bits .or .u64 x11_2 x12_2) t146 t147 _ A12.out).mono ?_); rintro e w' ⟨rfl, ⟨nd, rfl⟩⟩; refine ⟨_, rfl, ?_⟩))
              go_roundg k2
              case measure => have := HJ8.out; have := HK2.out; omega
              case rel => exact ⟨(Go.bits .or .u64 x11_2 x12_2), (x12_2 / 2), (by first | rfl | (simp; done) | (simp [*]; done)), (by first | rfl | (simp; done) | (simp [*]; done)), H', ⟨by have := HJ8.out; have := HK2.out; omega⟩, by repeat (first | exact Drawn0.refl _ | apply Drawn0.step)⟩
            · rw [if_neg c13] at H
              have c13b0 : decide (t146 < x10_8) = false := decide_eq_false c13
              clear c13
              by_cases c14 : t146 = x10_8
              · rw [if_pos c14] at H
                have c14b0 : (t146 == x10_8) = true := beq_iff_eq.mpr c14
                have c14b1 : (t146 != x10_8) = false := bne_eq_false_iff_eq.mpr c14
                clear c14
                by_cases c15 : t147 ≤ (IntKind.u64.wrap (t141 + t145))
                · rw [if_pos c15] at H
                  have c15b0 : decide (t147 ≤ (IntKind.u64.wrap (t141 + t145))) = true := decide_eq_true c15
                  clear c15
                  have H' := Aside0.mk H
                  clear H
                  go_wp2_with (first | ((with_reducible refine gate_callee (f := 55) rfl ?_); refine goesL_ (some 53) rfl rfl Try.func55 (by kernel_rfl) rfl #[.int .u64 (Go.bits .or .u64 x11_2 x12_2), .int .u64 (Go.bits .or .u64 x11_2 x12_2)] rfl (by (try simp only [List.map_toArray, List.map_cons, List.map_nil]); first | done | rfl | (simp only [List.length_drop, List.length_take]; rfl)) ?_; (with_reducible refine (imageeditorref01_Product.calls (Go.bits .or .u64 x11_2 x12_2) (Go.bits .or .u64 x11_2 x12_2) t146 t147 _ A12.out).mono ?_); rintro e w' ⟨rfl, ⟨nd, rfl⟩⟩; refine ⟨_, rfl, ?_⟩))
                  go_roundg k2
                  case measure => have := HJ8.out; have := HK2.out; omega
                  case rel => exact ⟨(Go.bits .or .u64 x11_2 x12_2), (x12_2 / 2), (by first | rfl | (simp; done) | (simp [*]; done)), (by first | rfl | (simp; done) | (simp [*]; done)), H', ⟨by have := HJ8.out; have := HK2.out; omega⟩, by repeat (first | exact Drawn0.refl _ | apply Drawn0.step)⟩
                · rw [if_neg c15] at H
                  have c15b0 : decide (t147 ≤ (IntKind.u64.wrap (t141 + t145))) = false := decide_eq_false c15
                  clear c15
                  have H' := Aside0.mk H
                  clear H
                  go_wp2_with (first | ((with_reducible refine gate_callee (f := 55) rfl ?_); refine goesL_ (some 53) rfl rfl Try.func55 (by kernel_rfl) rfl #[.int .u64 (Go.bits .or .u64 x11_2 x12_2), .int .u64 (Go.bits .or .u64 x11_2 x12_2)] rfl (by (try simp only [List.map_toArray, List.map_cons, List.map_nil]); first | done | rfl | (simp only [List.length_drop, List.length_take]; rfl)) ?_; (with_reducible refine (imageeditorref01_Product.calls (Go.bits .or .u64 x11_2 x12_2) (Go.bits .or .u64 x11_2 x12_2) t146 t147 _ A12.out).mono ?_); rintro e w' ⟨rfl, ⟨nd, rfl⟩⟩; refine ⟨_, rfl, ?_⟩))
                  go_roundg k2
                  case measure => have := HJ8.out; have := HK2.out; omega
                  case rel => exact ⟨(x11_2), (x12_2 / 2), (by first | rfl | (simp; done) | (simp [*]; done)), (by first | rfl | (simp; done) | (simp [*]; done)), H', ⟨by have := HJ8.out; have := HK2.out; omega⟩, by repeat (first | exact Drawn0.refl _ | apply Drawn0.step)⟩
              · rw [if_neg c14] at H
                have c14b0 : (t146 == x10_8) = false := beq_eq_false_iff_ne.mpr c14
                have c14b1 : (t146 != x10_8) = true := bne_iff_ne.mpr c14
                have H' := Aside0.mk H
                clear H
                go_wp2_with (first | ((with_reducible refine gate_callee (f := 55) rfl ?_); refine goesL_ (some 53) rfl rfl Try.func55 (by kernel_rfl) rfl #[.int .u64 (Go.bits .or .u64 x11_2 x12_2), .int .u64 (Go.bits .or .u64 x11_2 x12_2)] rfl (by (try simp only [List.map_toArray, List.map_cons, List.map_nil]); first | done | rfl | (simp only [List.length_drop, List.length_take]; rfl)) ?_; (with_reducible refine (imageeditorref01_Product.calls (Go.bits .or .u64 x11_2 x12_2) (Go.bits .or .u64 x11_2 x12_2) t146 t147 _ A12.out).mono ?_); rintro e w' ⟨rfl, ⟨nd, rfl⟩⟩; refine ⟨_, rfl, ?_⟩))
                go_roundg k2
                case measure => have := HJ8.out; have := HK2.out; omega
                case rel => exact ⟨(x11_2), (x12_2 / 2), (by first | rfl | (simp; done) | (simp [*]; done)), (by first | rfl | (simp; done) | (simp [*]; done)), H', ⟨by have := HJ8.out; have := HK2.out; omega⟩, by repeat (first | exact Drawn0.refl _ | apply Drawn0.step)⟩
          · rw [if_neg c11] at H
            have c11b0 : decide (0 < x12_2) = false := decide_eq_false c11
            clear c11
            replace H := Option.bind_eq_some_iff.mp H
            obtain ⟨t148, A160, H⟩ := H
            replace H : (some t148) = some r := H
            have A16 := Aside0.mk A160
            clear A160
            obtain rfl := Option.some.inj H
            go_wp2_with (first | ((with_reducible refine gate_callee (f := 63) rfl ?_); refine goesL_ (some 73) rfl rfl Try.func63 (by kernel_rfl) rfl #[.int .u64 0, .int .u64 x11_2, .bool false] rfl (by (try simp only [List.map_toArray, List.map_cons, List.map_nil]); first | done | rfl | (simp only [List.length_drop, List.length_take]; rfl)) ?_; (with_reducible refine (imageeditorref01_signed.calls k2 0 x11_2 false t148 _ A16.out).mono ?_); rintro e w' ⟨rfl, ⟨nd, rfl⟩⟩; refine ⟨_, rfl, ?_⟩))
            go_ret
            exact ⟨by first | rfl | (simp; done) | (simp [*]; done), by repeat (first | exact Drawn0.refl _ | apply Drawn0.step)⟩

-- NOT PRINTED: function 12 (imageeditorlaw01_NumRoots)

-- NOT PRINTED: function 70 (imageeditorref01_table)

-- NOT PRINTED: function 69 (imageeditorref01_quarter)

-- NOT PRINTED: function 67 (imageeditorref01_sine)

-- NOT PRINTED: function 53 (imageeditorref01_Turn)

-- NOT PRINTED: function 13 (imageeditorlaw01_NumTurns)

-- NOT PRINTED: function 14 (imageeditorlaw01_NumQuotients)

-- NOT PRINTED: function 15 (imageeditorlaw01_NumInverts)

-- NOT PRINTED: function 16 (imageeditorlaw01_NumSquares)

-- NOT PRINTED: function 17 (imageeditorlaw01_NumCircles)

end Go.Proofs.Yteehnbgkgdhgaaa.PNum
