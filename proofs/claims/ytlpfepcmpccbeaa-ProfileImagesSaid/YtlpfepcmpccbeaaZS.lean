/-
  Proved: contracts of functions of the program and of the reference, several texts of mine in one; the conditions stand at each theorem.
-/
import Derived.Test.YtlpfepcmpccbeaaZQ
import Derived.Test.YtlpfepcmpccbeaaZM
/-
  knots and Standard, both sides.
-/
namespace Go.Proofs.Ytlpfepcmpccbeaa.Pf
open Go.RowKit Go.Proofs.Ytlpfepcmpccbeaa.NM Go.Proofs.Ytlpfepcmpccbeaa.Cv Go.Proofs.Ytlpfepcmpccbeaa.Nm9 Go.Proofs.Ytlpfepcmpccbeaa.Mx Go.Proofs.Ytlpfepcmpccbeaa.PNum Go.Proofs.YtlpfepcmpccbeaaW.PrintWords Go.Proofs.YtlpfepcmpccbeaaW.PrintMore Go.Proofs.YtlpfepcmpccbeaaW.PrintLast
set_option linter.unusedVariables false
/-- the knots of a list of numbers -/
def pairsK (L : List Int) : List Kn := (List.range (L.length / 2)).map fun j => ⟨L.getD (2 * j) 0, L.getD (2 * j + 1) 0⟩
theorem pairs_step (L : List Int) (j : Nat) : ((List.range j).map fun j => (⟨L.getD (2 * j) 0, L.getD (2 * j + 1) 0⟩ : Kn)) ++ [⟨L.getD (2 * j) 0, L.getD (2 * j + 1) 0⟩] = (List.range (j + 1)).map fun j => (⟨L.getD (2 * j) 0, L.getD (2 * j + 1) 0⟩ : Kn) := by
  rw [List.range_succ, List.map_append]
  rfl
theorem knots_l0 (L : List Int) (hl : L.length ≤ 1048576) : ∀ (n j k : Nat), j + n = L.length / 2 → n + 1 ≤ k → profile_knots.l0 k L ((List.range j).map fun j => (⟨L.getD (2 * j) 0, L.getD (2 * j + 1) 0⟩ : Kn)) (2 * j : Nat) = some (pairsK L)
  | 0, j, k, hj, hk => by
    obtain ⟨k, rfl⟩ : ∃ k', k = k' + 1 := ⟨k - 1, by omega⟩
    rw [profile_knots.l0, w64' (x := ((2 * j : Nat) : Int) + 1) (by omega) (by omega), if_neg (by omega)]
    unfold pairsK
    rw [← hj]; rfl
  | n + 1, j, k, hj, hk => by
    obtain ⟨k, rfl⟩ : ∃ k', k = k' + 1 := ⟨k - 1, by omega⟩
    have ih := knots_l0 L hl n (j + 1) k (by omega) (by omega)
    rw [profile_knots.l0, w64' (x := ((2 * j : Nat) : Int) + 1) (by omega) (by omega), w64' (x := ((2 * j : Nat) : Int) + 2) (by omega) (by omega), if_pos (by omega), if_pos (by omega), if_pos (by omega), if_pos (by omega), if_pos (by simp; omega)]
    rw [← ih, ← pairs_step]
    rfl
theorem rknots_l0 (L : List Int) (hl : L.length ≤ 1048576) : ∀ (n j k : Nat), j + n = L.length / 2 → n + 1 ≤ k → imageeditorref09_knots.l0 k L ((List.range j).map fun j => (⟨L.getD (2 * j) 0, L.getD (2 * j + 1) 0⟩ : Kn)) (2 * j : Nat) = some (pairsK L)
  | 0, j, k, hj, hk => by
    obtain ⟨k, rfl⟩ : ∃ k', k = k' + 1 := ⟨k - 1, by omega⟩
    rw [imageeditorref09_knots.l0, w64' (x := ((2 * j : Nat) : Int) + 1) (by omega) (by omega), if_neg (by omega)]
    unfold pairsK
    rw [← hj]; rfl
  | n + 1, j, k, hj, hk => by
    obtain ⟨k, rfl⟩ : ∃ k', k = k' + 1 := ⟨k - 1, by omega⟩
    have ih := rknots_l0 L hl n (j + 1) k (by omega) (by omega)
    rw [imageeditorref09_knots.l0, w64' (x := ((2 * j : Nat) : Int) + 1) (by omega) (by omega), w64' (x := ((2 * j : Nat) : Int) + 2) (by omega) (by omega), if_pos (by omega), if_pos (by omega), if_pos (by omega), if_pos (by omega), if_pos (by simp; omega)]
    rw [← ih, ← pairs_step]
    rfl
theorem add0 (g j : Nat) : (⟨g, 0, none⟩ : Addr).add j = ⟨g, j, none⟩ := by unfold Addr.add; split <;> simp_all
/-- a row of whole numbers, read -/
theorem ints_C {w : World} {g t : Nat} {L : List Int} (h : holdsC w g t (L.map (Value.int .i64)).toArray) (hl : L.length ≤ 1048576) : Kd.C (Kd.int .i64) w (some ⟨g, 0, none⟩) L.length L := by
  refine Kd.C_of_reads (d := 0) ⟨rfl, by omega, fun hn => ⟨_, rfl, fun j hj => ?_⟩⟩
  rw [add0]
  refine h.cell j _ ?_
  simp [hj]
theorem knots_any (A : Option Addr) (c : Nat) (L : List Int) (w : World) (hl : L.length ≤ 1048576) (h : Kd.C (Kd.int .i64) w A L.length L) (hc : L.length ≤ c) :
    Calls Try.prog 40 #[.slice A L.length c] w fun e w' => ∃ A2 c2, e = .returned (.slice A2 (pairsK L).length c2) ∧ Kd.R k72 72 w' w.heap.size (fun _ => True) (.slice A2 (pairsK L).length c2) (pairsK L) ∧ Below w.heap.size w w' := by
  refine (profile_knots.calls (L.length / 2 + 1) A c L (pairsK L) w h hc (knots_l0 L hl (L.length / 2) 0 _ (by omega) (by omega))).mono ?_
  rintro e w' ⟨v, rfl, hR, hB⟩
  obtain ⟨A2, c2, rfl⟩ := Kd.R_slice hR
  exact ⟨A2, c2, rfl, hR, hB⟩
def stdN (i : Int) : ByteArray := if i = 0 then ⟨#[108, 105, 110, 101, 97, 114]⟩ else (if i = 1 then ⟨#[115, 114, 103, 98]⟩ else (if i = 2 then ⟨#[119, 105, 100, 101]⟩ else (if i = 3 then ⟨#[119, 97, 114, 109]⟩ else ⟨#[]⟩)))
def stdI (i : Int) : List Int := if i = 0 then [0, 0, 65535, 65535] else (if i = 1 then [0, 0, 2621, 203, 6554, 657, 13107, 2170, 19661, 4800, 26214, 8708, 32768, 14027, 39321, 20876, 45875, 29359, 52428, 39572, 58982, 51603, 65535, 65535] else (if i = 2 then [0, 0, 8192, 676, 16384, 3104, 24576, 7574, 32768, 14263, 40960, 23302, 49152, 34803, 57344, 48853, 65535, 65535] else (if i = 3 then [0, 0, 16384, 8192, 32768, 24576, 65535, 65535] else [])))
def stdMl (i : Int) : List Int := if i = 0 then [65536, 0, 0, 0, 65536, 0, 0, 0, 65536] else (if i = 1 then [27031, 23434, 11825, 13938, 46868, 4730, 1267, 7811, 62279] else (if i = 2 then [37797, 12160, 12333, 19489, 41114, 4933, 1772, 4633, 64953] else (if i = 3 then [60000, 5000, 536, 2000, 62000, 1536, 0, 4000, 61536] else [])))
def stdM (i : Int) : Nat → Int := if i = 0 then sameM else fun k => (stdMl i).getD k 0
def stdC (i : Int) : Int := if i = 0 then 0 else (if i = 1 then 0 else (if i = 2 then 0 else (if i = 3 then 0 else 2)))
theorem profC_one (nm : ByteArray) (s : Value) (m : Nat → Int) (h : s.oneCell' = true) : (profC nm s m).all (·.oneCell') = true := by
  unfold profC
  rw [Array.all_append, arrN_one]
  simp [h]
  rfl
theorem profC_size (nm : ByteArray) (s : Value) (m : Nat → Int) : (profC nm s m).size = 11 := by unfold profC; simp [arrN_size]
set_option maxRecDepth 20000 in
set_option maxHeartbeats 2000000 in
theorem pstd_0 (w : World) :
    Calls Try.prog 15 #[.int .i64 0] w fun e w' => ∃ A2 c2, e = .returned (.tuple #[.agg (profC ⟨#[108, 105, 110, 101, 97, 114]⟩ (.slice A2 (pairsK [0, 0, 65535, 65535]).length c2) sameM), .int .i64 0]) ∧ Kd.C k72 w' A2 (pairsK [0, 0, 65535, 65535]).length (pairsK [0, 0, 65535, 65535]) ∧ (pairsK [0, 0, 65535, 65535]).length ≤ c2 ∧ Below w.heap.size w w' := by
  go_enter Try.func15, Try.ntmps15
  go_upto_region 1 with fail
  have h0 : holdsC (w.alloc (.cells #[.string ⟨#[]⟩, .slice none 0 0, .int .i64 0, .int .i64 0, .int .i64 0, .int .i64 0, .int .i64 0, .int .i64 0, .int .i64 0, .int .i64 0, .int .i64 0] 25)) w.heap.size 25 #[.string ⟨#[]⟩, .slice none 0 0, .int .i64 0, .int .i64 0, .int .i64 0, .int .i64 0, .int .i64 0, .int .i64 0, .int .i64 0, .int .i64 0, .int .i64 0] := by
    have h : holdsC (w.alloc (.cells #[.string ⟨#[]⟩, .slice none 0 0, .int .i64 0, .int .i64 0, .int .i64 0, .int .i64 0, .int .i64 0, .int .i64 0, .int .i64 0, .int .i64 0, .int .i64 0] 25)) w.heap.size 25 #[.string ⟨#[]⟩, .slice none 0 0, .int .i64 0, .int .i64 0, .int .i64 0, .int .i64 0, .int .i64 0, .int .i64 0, .int .i64 0, .int .i64 0, .int .i64 0] := heap_alloc_new _ _
    have h := h
    exact h
  have hb : Below w.heap.size w (w.alloc (.cells #[.string ⟨#[]⟩, .slice none 0 0, .int .i64 0, .int .i64 0, .int .i64 0, .int .i64 0, .int .i64 0, .int .i64 0, .int .i64 0, .int .i64 0, .int .i64 0] 25)) := ((Below.refl _ _).alloc (Nat.le_refl _) _)
  generalize (w.alloc (.cells #[.string ⟨#[]⟩, .slice none 0 0, .int .i64 0, .int .i64 0, .int .i64 0, .int .i64 0, .int .i64 0, .int .i64 0, .int .i64 0, .int .i64 0, .int .i64 0] 25)) = wc at *
  generalize hB : w.heap.size = B at *
  have HB := Lib.hid hB
  clear hB
  go_wp2_with (refine wpList_buildFlat rfl 67 3 4 _ rfl .i64 [0, 0, 65535, 65535] Try.underlying67 (by kernel_rfl) (by kernel_rfl) rfl (by omega) (by omega) (by kernel_rfl) ?_)
  have hq : B < (wc.alloc (.cells (([0, 0, 65535, 65535] : List Int).map (Value.int .i64)).toArray 3)).heap.size := (h0.alloc _).lt
  refine (knots_any (some ⟨wc.heap.size, 0, none⟩) 4 [0, 0, 65535, 65535] (wc.alloc (.cells (([0, 0, 65535, 65535] : List Int).map (Value.int .i64)).toArray 3)) (by decide) (ints_C (heap_alloc_new _ _) (by decide)) (Nat.le_refl _)).mono ?_; rintro e w1 ⟨A2, c2, rfl, hR, b1⟩
  have g0 := (h0.alloc (.cells (([0, 0, 65535, 65535] : List Int).map (Value.int .i64)).toArray 3)).kept b1 hq
  have gb := (hb.alloc (Nat.le_trans (Nat.le_of_eq HB.out.symm) hb.size) (.cells (([0, 0, 65535, 65535] : List Int).map (Value.int .i64)).toArray 3)).trans (b1.mono (Nat.le_of_lt hq))
  clear h0 hb b1
  generalize (wc.alloc (.cells (([0, 0, 65535, 65535] : List Int).map (Value.int .i64)).toArray 3)).heap.size = q at *
  go_wp2_with fail
  refine (same_any _).mono ?_; rintro e w2 ⟨rfl, b1⟩
  have g0_ := g0.kept b1 g0.lt
  have gb_ := gb.trans (b1.mono (Nat.le_trans (Nat.le_of_eq HB.out.symm) gb.size))
  have hR := Kd.R_below hR b1
  clear g0 gb b1
  go_wp2_with (first
    | (refine wpList_build_as rfl 25 _ rfl (profC ⟨#[108, 105, 110, 101, 97, 114]⟩ (.slice A2 (pairsK [0, 0, 65535, 65535]).length c2) sameM) (by kernel_rfl) ?_)
    | (refine wpList_store_row rfl 25 (.tmp 2) (.tmp 12) rfl B (profC ⟨#[108, 105, 110, 101, 97, 114]⟩ (.slice A2 (pairsK [0, 0, 65535, 65535]).length c2) sameM) rfl rfl 25 _ g0_ (profC_info _ _ _) (by rw [profC_size]; rfl) (profC_one _ _ _ rfl) ?_))
  have hR := R_C (R_setRow hR hq (profC ⟨#[108, 105, 110, 101, 97, 114]⟩ (.slice A2 (pairsK [0, 0, 65535, 65535]).length c2) sameM))
  refine bodyPost_ret (v := .tuple #[.agg (profC ⟨#[108, 105, 110, 101, 97, 114]⟩ (.slice A2 (pairsK [0, 0, 65535, 65535]).length c2) sameM), .int .i64 0]) (results_row_tmp rfl _ _ rfl rfl (holdsC_row g0_ _) rfl Try.underlying25 (profC_info _ _ _)) rfl ?_
  exact ⟨A2, c2, rfl, hR.2, hR.1, by rw [HB.out]; exact below_setRow gb_ (Nat.le_refl _) _⟩
set_option maxRecDepth 20000 in
set_option maxHeartbeats 2000000 in
theorem pstd_1 (w : World) :
    Calls Try.prog 15 #[.int .i64 1] w fun e w' => ∃ A2 c2, e = .returned (.tuple #[.agg (profC ⟨#[115, 114, 103, 98]⟩ (.slice A2 (pairsK [0, 0, 2621, 203, 6554, 657, 13107, 2170, 19661, 4800, 26214, 8708, 32768, 14027, 39321, 20876, 45875, 29359, 52428, 39572, 58982, 51603, 65535, 65535]).length c2) (fun k => ([27031, 23434, 11825, 13938, 46868, 4730, 1267, 7811, 62279] : List Int).getD k 0)), .int .i64 0]) ∧ Kd.C k72 w' A2 (pairsK [0, 0, 2621, 203, 6554, 657, 13107, 2170, 19661, 4800, 26214, 8708, 32768, 14027, 39321, 20876, 45875, 29359, 52428, 39572, 58982, 51603, 65535, 65535]).length (pairsK [0, 0, 2621, 203, 6554, 657, 13107, 2170, 19661, 4800, 26214, 8708, 32768, 14027, 39321, 20876, 45875, 29359, 52428, 39572, 58982, 51603, 65535, 65535]) ∧ (pairsK [0, 0, 2621, 203, 6554, 657, 13107, 2170, 19661, 4800, 26214, 8708, 32768, 14027, 39321, 20876, 45875, 29359, 52428, 39572, 58982, 51603, 65535, 65535]).length ≤ c2 ∧ Below w.heap.size w w' := by
  go_enter Try.func15, Try.ntmps15
  go_upto_region 1 with fail
  have h0 : holdsC (w.alloc (.cells #[.string ⟨#[]⟩, .slice none 0 0, .int .i64 0, .int .i64 0, .int .i64 0, .int .i64 0, .int .i64 0, .int .i64 0, .int .i64 0, .int .i64 0, .int .i64 0] 25)) w.heap.size 25 #[.string ⟨#[]⟩, .slice none 0 0, .int .i64 0, .int .i64 0, .int .i64 0, .int .i64 0, .int .i64 0, .int .i64 0, .int .i64 0, .int .i64 0, .int .i64 0] := by
    have h : holdsC (w.alloc (.cells #[.string ⟨#[]⟩, .slice none 0 0, .int .i64 0, .int .i64 0, .int .i64 0, .int .i64 0, .int .i64 0, .int .i64 0, .int .i64 0, .int .i64 0, .int .i64 0] 25)) w.heap.size 25 #[.string ⟨#[]⟩, .slice none 0 0, .int .i64 0, .int .i64 0, .int .i64 0, .int .i64 0, .int .i64 0, .int .i64 0, .int .i64 0, .int .i64 0, .int .i64 0] := heap_alloc_new _ _
    have h := h
    exact h
  have hb : Below w.heap.size w (w.alloc (.cells #[.string ⟨#[]⟩, .slice none 0 0, .int .i64 0, .int .i64 0, .int .i64 0, .int .i64 0, .int .i64 0, .int .i64 0, .int .i64 0, .int .i64 0, .int .i64 0] 25)) := ((Below.refl _ _).alloc (Nat.le_refl _) _)
  generalize (w.alloc (.cells #[.string ⟨#[]⟩, .slice none 0 0, .int .i64 0, .int .i64 0, .int .i64 0, .int .i64 0, .int .i64 0, .int .i64 0, .int .i64 0, .int .i64 0, .int .i64 0] 25)) = wc at *
  generalize hB : w.heap.size = B at *
  have HB := Lib.hid hB
  clear hB
  go_wp2_with (refine wpList_buildFlat rfl 67 3 24 _ rfl .i64 [0, 0, 2621, 203, 6554, 657, 13107, 2170, 19661, 4800, 26214, 8708, 32768, 14027, 39321, 20876, 45875, 29359, 52428, 39572, 58982, 51603, 65535, 65535] Try.underlying67 (by kernel_rfl) (by kernel_rfl) rfl (by omega) (by omega) (by kernel_rfl) ?_)
  have hq : B < (wc.alloc (.cells (([0, 0, 2621, 203, 6554, 657, 13107, 2170, 19661, 4800, 26214, 8708, 32768, 14027, 39321, 20876, 45875, 29359, 52428, 39572, 58982, 51603, 65535, 65535] : List Int).map (Value.int .i64)).toArray 3)).heap.size := (h0.alloc _).lt
  refine (knots_any (some ⟨wc.heap.size, 0, none⟩) 24 [0, 0, 2621, 203, 6554, 657, 13107, 2170, 19661, 4800, 26214, 8708, 32768, 14027, 39321, 20876, 45875, 29359, 52428, 39572, 58982, 51603, 65535, 65535] (wc.alloc (.cells (([0, 0, 2621, 203, 6554, 657, 13107, 2170, 19661, 4800, 26214, 8708, 32768, 14027, 39321, 20876, 45875, 29359, 52428, 39572, 58982, 51603, 65535, 65535] : List Int).map (Value.int .i64)).toArray 3)) (by decide) (ints_C (heap_alloc_new _ _) (by decide)) (Nat.le_refl _)).mono ?_; rintro e w1 ⟨A2, c2, rfl, hR, b1⟩
  have g0 := (h0.alloc (.cells (([0, 0, 2621, 203, 6554, 657, 13107, 2170, 19661, 4800, 26214, 8708, 32768, 14027, 39321, 20876, 45875, 29359, 52428, 39572, 58982, 51603, 65535, 65535] : List Int).map (Value.int .i64)).toArray 3)).kept b1 hq
  have gb := (hb.alloc (Nat.le_trans (Nat.le_of_eq HB.out.symm) hb.size) (.cells (([0, 0, 2621, 203, 6554, 657, 13107, 2170, 19661, 4800, 26214, 8708, 32768, 14027, 39321, 20876, 45875, 29359, 52428, 39572, 58982, 51603, 65535, 65535] : List Int).map (Value.int .i64)).toArray 3)).trans (b1.mono (Nat.le_of_lt hq))
  clear h0 hb b1
  generalize (wc.alloc (.cells (([0, 0, 2621, 203, 6554, 657, 13107, 2170, 19661, 4800, 26214, 8708, 32768, 14027, 39321, 20876, 45875, 29359, 52428, 39572, 58982, 51603, 65535, 65535] : List Int).map (Value.int .i64)).toArray 3)).heap.size = q at *
  go_wp2_with (first
    | (refine wpList_build_as rfl 23 _ rfl (arrN 9 (fun k => ([27031, 23434, 11825, 13938, 46868, 4730, 1267, 7811, 62279] : List Int).getD k 0)) (by kernel_rfl) ?_)
    | (refine wpList_build_as rfl 25 _ rfl (profC ⟨#[115, 114, 103, 98]⟩ (.slice A2 (pairsK [0, 0, 2621, 203, 6554, 657, 13107, 2170, 19661, 4800, 26214, 8708, 32768, 14027, 39321, 20876, 45875, 29359, 52428, 39572, 58982, 51603, 65535, 65535]).length c2) (fun k => ([27031, 23434, 11825, 13938, 46868, 4730, 1267, 7811, 62279] : List Int).getD k 0)) (by kernel_rfl) ?_)
    | (refine wpList_store_row rfl 25 (.tmp 2) (.tmp 19) rfl B (profC ⟨#[115, 114, 103, 98]⟩ (.slice A2 (pairsK [0, 0, 2621, 203, 6554, 657, 13107, 2170, 19661, 4800, 26214, 8708, 32768, 14027, 39321, 20876, 45875, 29359, 52428, 39572, 58982, 51603, 65535, 65535]).length c2) (fun k => ([27031, 23434, 11825, 13938, 46868, 4730, 1267, 7811, 62279] : List Int).getD k 0)) rfl rfl 25 _ g0 (profC_info _ _ _) (by rw [profC_size]; rfl) (profC_one _ _ _ rfl) ?_))
  have hR := R_C (R_setRow hR hq (profC ⟨#[115, 114, 103, 98]⟩ (.slice A2 (pairsK [0, 0, 2621, 203, 6554, 657, 13107, 2170, 19661, 4800, 26214, 8708, 32768, 14027, 39321, 20876, 45875, 29359, 52428, 39572, 58982, 51603, 65535, 65535]).length c2) (fun k => ([27031, 23434, 11825, 13938, 46868, 4730, 1267, 7811, 62279] : List Int).getD k 0)))
  refine bodyPost_ret (v := .tuple #[.agg (profC ⟨#[115, 114, 103, 98]⟩ (.slice A2 (pairsK [0, 0, 2621, 203, 6554, 657, 13107, 2170, 19661, 4800, 26214, 8708, 32768, 14027, 39321, 20876, 45875, 29359, 52428, 39572, 58982, 51603, 65535, 65535]).length c2) (fun k => ([27031, 23434, 11825, 13938, 46868, 4730, 1267, 7811, 62279] : List Int).getD k 0)), .int .i64 0]) (results_row_tmp rfl _ _ rfl rfl (holdsC_row g0 _) rfl Try.underlying25 (profC_info _ _ _)) rfl ?_
  exact ⟨A2, c2, rfl, hR.2, hR.1, by rw [HB.out]; exact below_setRow gb (Nat.le_refl _) _⟩
set_option maxRecDepth 20000 in
set_option maxHeartbeats 2000000 in
theorem pstd_2 (w : World) :
    Calls Try.prog 15 #[.int .i64 2] w fun e w' => ∃ A2 c2, e = .returned (.tuple #[.agg (profC ⟨#[119, 105, 100, 101]⟩ (.slice A2 (pairsK [0, 0, 8192, 676, 16384, 3104, 24576, 7574, 32768, 14263, 40960, 23302, 49152, 34803, 57344, 48853, 65535, 65535]).length c2) (fun k => ([37797, 12160, 12333, 19489, 41114, 4933, 1772, 4633, 64953] : List Int).getD k 0)), .int .i64 0]) ∧ Kd.C k72 w' A2 (pairsK [0, 0, 8192, 676, 16384, 3104, 24576, 7574, 32768, 14263, 40960, 23302, 49152, 34803, 57344, 48853, 65535, 65535]).length (pairsK [0, 0, 8192, 676, 16384, 3104, 24576, 7574, 32768, 14263, 40960, 23302, 49152, 34803, 57344, 48853, 65535, 65535]) ∧ (pairsK [0, 0, 8192, 676, 16384, 3104, 24576, 7574, 32768, 14263, 40960, 23302, 49152, 34803, 57344, 48853, 65535, 65535]).length ≤ c2 ∧ Below w.heap.size w w' := by
  go_enter Try.func15, Try.ntmps15
  go_upto_region 1 with fail
  have h0 : holdsC (w.alloc (.cells #[.string ⟨#[]⟩, .slice none 0 0, .int .i64 0, .int .i64 0, .int .i64 0, .int .i64 0, .int .i64 0, .int .i64 0, .int .i64 0, .int .i64 0, .int .i64 0] 25)) w.heap.size 25 #[.string ⟨#[]⟩, .slice none 0 0, .int .i64 0, .int .i64 0, .int .i64 0, .int .i64 0, .int .i64 0, .int .i64 0, .int .i64 0, .int .i64 0, .int .i64 0] := by
    have h : holdsC (w.alloc (.cells #[.string ⟨#[]⟩, .slice none 0 0, .int .i64 0, .int .i64 0, .int .i64 0, .int .i64 0, .int .i64 0, .int .i64 0, .int .i64 0, .int .i64 0, .int .i64 0] 25)) w.heap.size 25 #[.string ⟨#[]⟩, .slice none 0 0, .int .i64 0, .int .i64 0, .int .i64 0, .int .i64 0, .int .i64 0, .int .i64 0, .int .i64 0, .int .i64 0, .int .i64 0] := heap_alloc_new _ _
    have h := h
    exact h
  have hb : Below w.heap.size w (w.alloc (.cells #[.string ⟨#[]⟩, .slice none 0 0, .int .i64 0, .int .i64 0, .int .i64 0, .int .i64 0, .int .i64 0, .int .i64 0, .int .i64 0, .int .i64 0, .int .i64 0] 25)) := ((Below.refl _ _).alloc (Nat.le_refl _) _)
  generalize (w.alloc (.cells #[.string ⟨#[]⟩, .slice none 0 0, .int .i64 0, .int .i64 0, .int .i64 0, .int .i64 0, .int .i64 0, .int .i64 0, .int .i64 0, .int .i64 0, .int .i64 0] 25)) = wc at *
  generalize hB : w.heap.size = B at *
  have HB := Lib.hid hB
  clear hB
  go_wp2_with (refine wpList_buildFlat rfl 67 3 18 _ rfl .i64 [0, 0, 8192, 676, 16384, 3104, 24576, 7574, 32768, 14263, 40960, 23302, 49152, 34803, 57344, 48853, 65535, 65535] Try.underlying67 (by kernel_rfl) (by kernel_rfl) rfl (by omega) (by omega) (by kernel_rfl) ?_)
  have hq : B < (wc.alloc (.cells (([0, 0, 8192, 676, 16384, 3104, 24576, 7574, 32768, 14263, 40960, 23302, 49152, 34803, 57344, 48853, 65535, 65535] : List Int).map (Value.int .i64)).toArray 3)).heap.size := (h0.alloc _).lt
  refine (knots_any (some ⟨wc.heap.size, 0, none⟩) 18 [0, 0, 8192, 676, 16384, 3104, 24576, 7574, 32768, 14263, 40960, 23302, 49152, 34803, 57344, 48853, 65535, 65535] (wc.alloc (.cells (([0, 0, 8192, 676, 16384, 3104, 24576, 7574, 32768, 14263, 40960, 23302, 49152, 34803, 57344, 48853, 65535, 65535] : List Int).map (Value.int .i64)).toArray 3)) (by decide) (ints_C (heap_alloc_new _ _) (by decide)) (Nat.le_refl _)).mono ?_; rintro e w1 ⟨A2, c2, rfl, hR, b1⟩
  have g0 := (h0.alloc (.cells (([0, 0, 8192, 676, 16384, 3104, 24576, 7574, 32768, 14263, 40960, 23302, 49152, 34803, 57344, 48853, 65535, 65535] : List Int).map (Value.int .i64)).toArray 3)).kept b1 hq
  have gb := (hb.alloc (Nat.le_trans (Nat.le_of_eq HB.out.symm) hb.size) (.cells (([0, 0, 8192, 676, 16384, 3104, 24576, 7574, 32768, 14263, 40960, 23302, 49152, 34803, 57344, 48853, 65535, 65535] : List Int).map (Value.int .i64)).toArray 3)).trans (b1.mono (Nat.le_of_lt hq))
  clear h0 hb b1
  generalize (wc.alloc (.cells (([0, 0, 8192, 676, 16384, 3104, 24576, 7574, 32768, 14263, 40960, 23302, 49152, 34803, 57344, 48853, 65535, 65535] : List Int).map (Value.int .i64)).toArray 3)).heap.size = q at *
  go_wp2_with (first
    | (refine wpList_build_as rfl 23 _ rfl (arrN 9 (fun k => ([37797, 12160, 12333, 19489, 41114, 4933, 1772, 4633, 64953] : List Int).getD k 0)) (by kernel_rfl) ?_)
    | (refine wpList_build_as rfl 25 _ rfl (profC ⟨#[119, 105, 100, 101]⟩ (.slice A2 (pairsK [0, 0, 8192, 676, 16384, 3104, 24576, 7574, 32768, 14263, 40960, 23302, 49152, 34803, 57344, 48853, 65535, 65535]).length c2) (fun k => ([37797, 12160, 12333, 19489, 41114, 4933, 1772, 4633, 64953] : List Int).getD k 0)) (by kernel_rfl) ?_)
    | (refine wpList_store_row rfl 25 (.tmp 2) (.tmp 26) rfl B (profC ⟨#[119, 105, 100, 101]⟩ (.slice A2 (pairsK [0, 0, 8192, 676, 16384, 3104, 24576, 7574, 32768, 14263, 40960, 23302, 49152, 34803, 57344, 48853, 65535, 65535]).length c2) (fun k => ([37797, 12160, 12333, 19489, 41114, 4933, 1772, 4633, 64953] : List Int).getD k 0)) rfl rfl 25 _ g0 (profC_info _ _ _) (by rw [profC_size]; rfl) (profC_one _ _ _ rfl) ?_))
  have hR := R_C (R_setRow hR hq (profC ⟨#[119, 105, 100, 101]⟩ (.slice A2 (pairsK [0, 0, 8192, 676, 16384, 3104, 24576, 7574, 32768, 14263, 40960, 23302, 49152, 34803, 57344, 48853, 65535, 65535]).length c2) (fun k => ([37797, 12160, 12333, 19489, 41114, 4933, 1772, 4633, 64953] : List Int).getD k 0)))
  refine bodyPost_ret (v := .tuple #[.agg (profC ⟨#[119, 105, 100, 101]⟩ (.slice A2 (pairsK [0, 0, 8192, 676, 16384, 3104, 24576, 7574, 32768, 14263, 40960, 23302, 49152, 34803, 57344, 48853, 65535, 65535]).length c2) (fun k => ([37797, 12160, 12333, 19489, 41114, 4933, 1772, 4633, 64953] : List Int).getD k 0)), .int .i64 0]) (results_row_tmp rfl _ _ rfl rfl (holdsC_row g0 _) rfl Try.underlying25 (profC_info _ _ _)) rfl ?_
  exact ⟨A2, c2, rfl, hR.2, hR.1, by rw [HB.out]; exact below_setRow gb (Nat.le_refl _) _⟩
set_option maxRecDepth 20000 in
set_option maxHeartbeats 2000000 in
theorem pstd_3 (w : World) :
    Calls Try.prog 15 #[.int .i64 3] w fun e w' => ∃ A2 c2, e = .returned (.tuple #[.agg (profC ⟨#[119, 97, 114, 109]⟩ (.slice A2 (pairsK [0, 0, 16384, 8192, 32768, 24576, 65535, 65535]).length c2) (fun k => ([60000, 5000, 536, 2000, 62000, 1536, 0, 4000, 61536] : List Int).getD k 0)), .int .i64 0]) ∧ Kd.C k72 w' A2 (pairsK [0, 0, 16384, 8192, 32768, 24576, 65535, 65535]).length (pairsK [0, 0, 16384, 8192, 32768, 24576, 65535, 65535]) ∧ (pairsK [0, 0, 16384, 8192, 32768, 24576, 65535, 65535]).length ≤ c2 ∧ Below w.heap.size w w' := by
  go_enter Try.func15, Try.ntmps15
  go_upto_region 1 with fail
  have h0 : holdsC (w.alloc (.cells #[.string ⟨#[]⟩, .slice none 0 0, .int .i64 0, .int .i64 0, .int .i64 0, .int .i64 0, .int .i64 0, .int .i64 0, .int .i64 0, .int .i64 0, .int .i64 0] 25)) w.heap.size 25 #[.string ⟨#[]⟩, .slice none 0 0, .int .i64 0, .int .i64 0, .int .i64 0, .int .i64 0, .int .i64 0, .int .i64 0, .int .i64 0, .int .i64 0, .int .i64 0] := by
    have h : holdsC (w.alloc (.cells #[.string ⟨#[]⟩, .slice none 0 0, .int .i64 0, .int .i64 0, .int .i64 0, .int .i64 0, .int .i64 0, .int .i64 0, .int .i64 0, .int .i64 0, .int .i64 0] 25)) w.heap.size 25 #[.string ⟨#[]⟩, .slice none 0 0, .int .i64 0, .int .i64 0, .int .i64 0, .int .i64 0, .int .i64 0, .int .i64 0, .int .i64 0, .int .i64 0, .int .i64 0] := heap_alloc_new _ _
    have h := h
    exact h
  have hb : Below w.heap.size w (w.alloc (.cells #[.string ⟨#[]⟩, .slice none 0 0, .int .i64 0, .int .i64 0, .int .i64 0, .int .i64 0, .int .i64 0, .int .i64 0, .int .i64 0, .int .i64 0, .int .i64 0] 25)) := ((Below.refl _ _).alloc (Nat.le_refl _) _)
  generalize (w.alloc (.cells #[.string ⟨#[]⟩, .slice none 0 0, .int .i64 0, .int .i64 0, .int .i64 0, .int .i64 0, .int .i64 0, .int .i64 0, .int .i64 0, .int .i64 0, .int .i64 0] 25)) = wc at *
  generalize hB : w.heap.size = B at *
  have HB := Lib.hid hB
  clear hB
  go_wp2_with (refine wpList_buildFlat rfl 67 3 8 _ rfl .i64 [0, 0, 16384, 8192, 32768, 24576, 65535, 65535] Try.underlying67 (by kernel_rfl) (by kernel_rfl) rfl (by omega) (by omega) (by kernel_rfl) ?_)
  have hq : B < (wc.alloc (.cells (([0, 0, 16384, 8192, 32768, 24576, 65535, 65535] : List Int).map (Value.int .i64)).toArray 3)).heap.size := (h0.alloc _).lt
  refine (knots_any (some ⟨wc.heap.size, 0, none⟩) 8 [0, 0, 16384, 8192, 32768, 24576, 65535, 65535] (wc.alloc (.cells (([0, 0, 16384, 8192, 32768, 24576, 65535, 65535] : List Int).map (Value.int .i64)).toArray 3)) (by decide) (ints_C (heap_alloc_new _ _) (by decide)) (Nat.le_refl _)).mono ?_; rintro e w1 ⟨A2, c2, rfl, hR, b1⟩
  have g0 := (h0.alloc (.cells (([0, 0, 16384, 8192, 32768, 24576, 65535, 65535] : List Int).map (Value.int .i64)).toArray 3)).kept b1 hq
  have gb := (hb.alloc (Nat.le_trans (Nat.le_of_eq HB.out.symm) hb.size) (.cells (([0, 0, 16384, 8192, 32768, 24576, 65535, 65535] : List Int).map (Value.int .i64)).toArray 3)).trans (b1.mono (Nat.le_of_lt hq))
  clear h0 hb b1
  generalize (wc.alloc (.cells (([0, 0, 16384, 8192, 32768, 24576, 65535, 65535] : List Int).map (Value.int .i64)).toArray 3)).heap.size = q at *
  go_wp2_with (first
    | (refine wpList_build_as rfl 23 _ rfl (arrN 9 (fun k => ([60000, 5000, 536, 2000, 62000, 1536, 0, 4000, 61536] : List Int).getD k 0)) (by kernel_rfl) ?_)
    | (refine wpList_build_as rfl 25 _ rfl (profC ⟨#[119, 97, 114, 109]⟩ (.slice A2 (pairsK [0, 0, 16384, 8192, 32768, 24576, 65535, 65535]).length c2) (fun k => ([60000, 5000, 536, 2000, 62000, 1536, 0, 4000, 61536] : List Int).getD k 0)) (by kernel_rfl) ?_)
    | (refine wpList_store_row rfl 25 (.tmp 2) (.tmp 32) rfl B (profC ⟨#[119, 97, 114, 109]⟩ (.slice A2 (pairsK [0, 0, 16384, 8192, 32768, 24576, 65535, 65535]).length c2) (fun k => ([60000, 5000, 536, 2000, 62000, 1536, 0, 4000, 61536] : List Int).getD k 0)) rfl rfl 25 _ g0 (profC_info _ _ _) (by rw [profC_size]; rfl) (profC_one _ _ _ rfl) ?_))
  have hR := R_C (R_setRow hR hq (profC ⟨#[119, 97, 114, 109]⟩ (.slice A2 (pairsK [0, 0, 16384, 8192, 32768, 24576, 65535, 65535]).length c2) (fun k => ([60000, 5000, 536, 2000, 62000, 1536, 0, 4000, 61536] : List Int).getD k 0)))
  refine bodyPost_ret (v := .tuple #[.agg (profC ⟨#[119, 97, 114, 109]⟩ (.slice A2 (pairsK [0, 0, 16384, 8192, 32768, 24576, 65535, 65535]).length c2) (fun k => ([60000, 5000, 536, 2000, 62000, 1536, 0, 4000, 61536] : List Int).getD k 0)), .int .i64 0]) (results_row_tmp rfl _ _ rfl rfl (holdsC_row g0 _) rfl Try.underlying25 (profC_info _ _ _)) rfl ?_
  exact ⟨A2, c2, rfl, hR.2, hR.1, by rw [HB.out]; exact below_setRow gb (Nat.le_refl _) _⟩
set_option maxRecDepth 20000 in
set_option maxHeartbeats 2000000 in
theorem pstd_o (i : Int) (h : i ≠ 0 ∧ i ≠ 1 ∧ i ≠ 2 ∧ i ≠ 3) (w : World) :
    Calls Try.prog 15 #[.int .i64 i] w fun e w' => ∃ A2 c2, e = .returned (.tuple #[.agg (profC ⟨#[]⟩ (.slice A2 (pairsK []).length c2) (fun k => ([] : List Int).getD k 0)), .int .i64 2]) ∧ Kd.C k72 w' A2 (pairsK []).length (pairsK []) ∧ (pairsK []).length ≤ c2 ∧ Below w.heap.size w w' := by
  have h0_ : (i == 0) = false := by simpa using h.1
  have h1_ : (i == 1) = false := by simpa using h.2.1
  have h2_ : (i == 2) = false := by simpa using h.2.2.1
  have h3_ : (i == 3) = false := by simpa using h.2.2.2
  go_enter Try.func15, Try.ntmps15
  go_upto_region 1 with fail
  have h0 : holdsC (w.alloc (.cells #[.string ⟨#[]⟩, .slice none 0 0, .int .i64 0, .int .i64 0, .int .i64 0, .int .i64 0, .int .i64 0, .int .i64 0, .int .i64 0, .int .i64 0, .int .i64 0] 25)) w.heap.size 25 #[.string ⟨#[]⟩, .slice none 0 0, .int .i64 0, .int .i64 0, .int .i64 0, .int .i64 0, .int .i64 0, .int .i64 0, .int .i64 0, .int .i64 0, .int .i64 0] := by
    have h : holdsC (w.alloc (.cells #[.string ⟨#[]⟩, .slice none 0 0, .int .i64 0, .int .i64 0, .int .i64 0, .int .i64 0, .int .i64 0, .int .i64 0, .int .i64 0, .int .i64 0, .int .i64 0] 25)) w.heap.size 25 #[.string ⟨#[]⟩, .slice none 0 0, .int .i64 0, .int .i64 0, .int .i64 0, .int .i64 0, .int .i64 0, .int .i64 0, .int .i64 0, .int .i64 0, .int .i64 0] := heap_alloc_new _ _
    have h := h
    exact h
  have hb : Below w.heap.size w (w.alloc (.cells #[.string ⟨#[]⟩, .slice none 0 0, .int .i64 0, .int .i64 0, .int .i64 0, .int .i64 0, .int .i64 0, .int .i64 0, .int .i64 0, .int .i64 0, .int .i64 0] 25)) := ((Below.refl _ _).alloc (Nat.le_refl _) _)
  generalize (w.alloc (.cells #[.string ⟨#[]⟩, .slice none 0 0, .int .i64 0, .int .i64 0, .int .i64 0, .int .i64 0, .int .i64 0, .int .i64 0, .int .i64 0, .int .i64 0, .int .i64 0] 25)) = wc at *
  generalize hB : w.heap.size = B at *
  have HB := Lib.hid hB
  clear hB
  go_wp2_with (first
    | (refine wpList_build_as rfl 25 _ rfl #[.string ⟨#[]⟩, .slice none 0 0, .int .i64 0, .int .i64 0, .int .i64 0, .int .i64 0, .int .i64 0, .int .i64 0, .int .i64 0, .int .i64 0, .int .i64 0] (by kernel_rfl) ?_)
    | (refine wpList_store_row rfl 25 (.tmp 2) (.tmp 33) rfl B #[.string ⟨#[]⟩, .slice none 0 0, .int .i64 0, .int .i64 0, .int .i64 0, .int .i64 0, .int .i64 0, .int .i64 0, .int .i64 0, .int .i64 0, .int .i64 0] rfl rfl 25 _ h0 (by kernel_rfl) rfl (by kernel_rfl) ?_))
  refine bodyPost_ret (v := .tuple #[.agg #[.string ⟨#[]⟩, .slice none 0 0, .int .i64 0, .int .i64 0, .int .i64 0, .int .i64 0, .int .i64 0, .int .i64 0, .int .i64 0, .int .i64 0, .int .i64 0], .int .i64 2]) (results_row_tmp rfl _ _ rfl rfl (holdsC_row h0 _) rfl Try.underlying25 (by kernel_rfl)) rfl ?_
  exact ⟨none, 0, rfl, Kd.C_nil _ _, Nat.le_refl _, by rw [HB.out]; exact below_setRow hb (Nat.le_refl _) _⟩
theorem pstd_any (i : Int) (w : World) :
    Calls Try.prog 15 #[.int .i64 i] w fun e w' => ∃ A2 c2, e = .returned (.tuple #[.agg (profC (stdN i) (.slice A2 (pairsK (stdI i)).length c2) (stdM i)), .int .i64 (stdC i)]) ∧ Kd.C k72 w' A2 (pairsK (stdI i)).length (pairsK (stdI i)) ∧ (pairsK (stdI i)).length ≤ c2 ∧ Below w.heap.size w w' := by
  by_cases h0 : i = 0
  · subst h0
    exact pstd_0 w
  by_cases h1 : i = 1
  · subst h1
    exact pstd_1 w
  by_cases h2 : i = 2
  · subst h2
    exact pstd_2 w
  by_cases h3 : i = 3
  · subst h3
    exact pstd_3 w
  have e1 : stdN i = ⟨#[]⟩ := by unfold stdN; rw [if_neg h0, if_neg h1, if_neg h2, if_neg h3]
  have e2 : stdI i = [] := by unfold stdI; rw [if_neg h0, if_neg h1, if_neg h2, if_neg h3]
  have e3 : stdM i = fun k => ([] : List Int).getD k 0 := by unfold stdM stdMl; rw [if_neg h0, if_neg h0, if_neg h1, if_neg h2, if_neg h3]
  have e4 : stdC i = 2 := by unfold stdC; rw [if_neg h0, if_neg h1, if_neg h2, if_neg h3]
  rw [e1, e2, e3, e4]
  exact pstd_o i ⟨h0, h1, h2, h3⟩ w
end Go.Proofs.Ytlpfepcmpccbeaa.Pf
/-
  profile.Bytes.
-/
namespace Go.Proofs.Ytlpfepcmpccbeaa.Pf
open Go.RowKit Go.Proofs.Ytlpfepcmpccbeaa.Wi Go.Proofs.Ytlpfepcmpccbeaa.NM Go.Proofs.Ytlpfepcmpccbeaa.Cv Go.Proofs.Ytlpfepcmpccbeaa.Nm9 Go.Proofs.Ytlpfepcmpccbeaa.Mx Go.Proofs.Ytlpfepcmpccbeaa.PNum Go.Proofs.YtlpfepcmpccbeaaW.PrintWords Go.Proofs.YtlpfepcmpccbeaaW.PrintMore Go.Proofs.YtlpfepcmpccbeaaW.PrintLast
set_option linter.unusedVariables false
/-- the encoding of a profile, knot by knot, then number by number -/
def accK (s : ByteArray) (l : List Kn) : Nat → ByteArray
  | 0 => s
  | i + 1 => accK s l i ++ (intS (kx l i) ++ intS (ky l i))
def accM (s : ByteArray) (m : Nat → Int) : Nat → ByteArray
  | 0 => s
  | i + 1 => accM s m i ++ intS (m i)
def headS (nm : ByteArray) (l : List Kn) : ByteArray := textS nm ++ uintS (l.length : Int)
def bytesV (nm : ByteArray) (l : List Kn) (m : Nat → Int) : ByteArray := accM (accK (headS nm l) l l.length) m 9
def bytesP (nm : ByteArray) (l : List Kn) (m : Nat → Int) : ByteArray := if profCheck nm l m = 0 then bytesV nm l m else ⟨#[]⟩
theorem intS_size (n : Int) : (intS n).size ≤ 10 := uintS_size _
theorem accK_size (s : ByteArray) (l : List Kn) : ∀ i, (accK s l i).size ≤ s.size + 20 * i
  | 0 => by simp [accK]
  | i + 1 => by
    have h1 := accK_size s l i
    have h2 := intS_size (kx l i)
    have h3 := intS_size (ky l i)
    show (accK s l i ++ (intS (kx l i) ++ intS (ky l i))).size ≤ _
    rw [ByteArray.size_append, ByteArray.size_append]; omega
theorem accM_size (s : ByteArray) (m : Nat → Int) : ∀ i, (accM s m i).size ≤ s.size + 10 * i
  | 0 => by simp [accM]
  | i + 1 => by
    have h1 := accM_size s m i
    have h2 := intS_size (m i)
    show (accM s m i ++ intS (m i)).size ≤ _
    rw [ByteArray.size_append]; omega
theorem textS_size (s : ByteArray) : (textS s).size ≤ s.size + 10 := by
  have := uintS_size (s.size : Int)
  unfold textS; rw [ByteArray.size_append]; omega
theorem prof_ok {nm : ByteArray} {l : List Kn} {m : Nat → Int} (h : profCheck nm l m = 0) : (nm.size ≤ 32 ∧ nameS nm = true) ∧ okM m ∧ checkK l = 0 ∧ risingK l = true ∧ invCode m = 0 := by
  unfold profCheck at h
  by_cases h1 : nameS nm = true
  · rw [if_pos h1] at h
    by_cases h2 : invCode m = 0 ∧ risingK l = true
    · have h3 : checkK l = 0 := by
        have := h2.2
        unfold risingK at this
        by_cases h4 : checkK l = 0 ∧ ends l
        · exact h4.1
        · rw [if_neg h4] at this; exact absurd this (by simp)
      have h5 : okM m := by
        have := h2.1
        unfold invCode at this
        by_cases h6 : okM m
        · exact h6
        · rw [if_neg h6] at this; exact absurd this (by omega)
      have h7 : nm.size ≤ 32 := by
        unfold nameS at h1
        simp only [Bool.and_eq_true, decide_eq_true_eq] at h1
        exact h1.1.2
      exact ⟨⟨h7, h1⟩, h5, h3, h2.2, h2.1⟩
    · rw [if_neg h2] at h; exact absurd h (by omega)
  · rw [if_neg h1] at h; exact absurd h (by omega)
set_option maxRecDepth 20000 in
set_option maxHeartbeats 2000000 in
theorem pBytes_any (nm : ByteArray) (A : Option Addr) (c : Nat) (l : List Kn) (m : Nat → Int) (w : World) (hs : nm.size ≤ 140737488355232) (hr : Kd.C k72 w A l.length l) (hc : l.length ≤ c) :
    Calls Try.prog 17 #[.agg (profC nm (.slice A l.length c) m)] w fun e w' => e = .returned (.tuple #[.string (bytesP nm l m), .int .i64 (profCheck nm l m)]) ∧ Below w.heap.size w w' := by
  have HCK : Hid (∀ w', Below w.heap.size w w' → Calls Try.prog 22 #[.agg (profC nm (.slice A l.length c) m)] w' fun e w'' => e = .returned (.int .i64 (profCheck nm l m)) ∧ Below w'.heap.size w' w'') := fun w' hb => pcheck_any nm A c l m w' hs (Kd.C_below hr hb) hc
  have HR : Hid (∀ w', Below w.heap.size w w' → Kd.C k72 w' A l.length l) := fun w' hb => Kd.C_below hr hb
  have HTX := Lib.hid (fun w => text_any nm w hs)
  have HOK : Hid (profCheck nm l m = 0 → nm.size ≤ 32 ∧ l.length ≤ 16 ∧ (∀ k, k < 9 → I64 (m k)) ∧ ∀ i, i < l.length → I64 (kx l i) ∧ I64 (ky l i)) := by
    intro h
    obtain ⟨⟨h1, _⟩, h2, h3, _, _⟩ := prof_ok h
    obtain ⟨_, h4, h5⟩ := checkK_zero h3
    refine ⟨h1, h4, fun k hk => ?_, fun i hi => ?_⟩
    · have := h2 k hk; unfold I64; omega
    · have := (h5 i hi).1; unfold unitI at this; unfold I64; omega
  have HP0 : Hid (profCheck nm l m = 0 → bytesP nm l m = bytesV nm l m) := fun h => by unfold bytesP; rw [if_pos h]
  have HP1 : Hid (profCheck nm l m ≠ 0 → bytesP nm l m = ⟨#[]⟩) := fun h => by unfold bytesP; rw [if_neg h]
  have HV : Hid (bytesV nm l m = accM (accK (textS nm ++ uintS (l.length : Int)) l l.length) m 9) := rfl
  have HTS := Lib.hid (textS_size nm)
  generalize profCheck nm l m = pc at *
  go_enter Try.func17, Try.ntmps17
  go_upto_region 1 with fail
  have h0 : holdsC (w.alloc (.cells (profC nm (.slice A l.length c) m) 25)) w.heap.size 25 (profC nm (.slice A l.length c) m) := by
    have h : holdsC (w.alloc (.cells (profC nm (.slice A l.length c) m) 25)) w.heap.size 25 (profC nm (.slice A l.length c) m) := heap_alloc_new _ _
    have h := h
    exact h
  have hb : Below w.heap.size w (w.alloc (.cells (profC nm (.slice A l.length c) m) 25)) := ((Below.refl _ _).alloc (Nat.le_refl _) _)
  generalize (w.alloc (.cells (profC nm (.slice A l.length c) m) 25)) = wc at *
  generalize hB : w.heap.size = B at *
  have HB := Lib.hid hB
  clear hB
  go_wp2_with (refine wpList_load_row rfl 25 (.tmp 1) rfl B rfl 25 (profC nm (.slice A l.length c) m) (0, 0) _ h0 Try.underlying25 rfl (profC_info _ _ _) ?_)
  refine (HCK.out _ hb).mono ?_; rintro e w1 ⟨rfl, b1⟩
  have g0_ := h0.kept b1 h0.lt
  have gb_ := hb.trans (b1.mono (Nat.le_trans (Nat.le_of_eq HB.out.symm) hb.size))
  clear h0 hb b1
  by_cases hpc : pc = 0
  · have hne : (pc == 0) = true := by simpa using hpc
    obtain ⟨ns, ls, ms, ks⟩ := HOK.out hpc
    have HP := Lib.hid (HP0.out hpc)
    clear HP0 HP1 HOK HCK
    have us := uintS_size (l.length : Int)
    have tz := HTS.out
    have HUI := Lib.hid (fun w => uint_any (l.length : Int) (by unfold U64; omega) w)
    generalize textS nm = tn at *
    generalize hu : uintS (l.length : Int) = ul at *
    clear hu
    go_upto_region 4 with fail
    have k0 := g0_
    have HK := Lib.hid gb_
    clear g0_ gb_
    have e1 : IntKind.u64.wrap (l.length : Int) = (l.length : Int) := wu (by omega) (by omega)
    have e2 : (9223372036854775807 < tn.size + ul.size) = False := eq_false (by omega)
    refine start_ (n := 10) (S := fun w' => holdsC w' B 25 (profC nm (.slice A l.length c) m)) (ds := []) #[false, false, false, false, false, false, false, false, false, false] (by kernel_rfl) rfl rfl k0 (fun hHeld => ?_)
    have HK := Lib.hid HK.out.drew
    refine pure_ (i := 0) (N := some 15) (v := ?_) (a' := ?_) #[true, false, false, false, false, false, false, false, false, false] rfl rfl (by kernel_rfl) (fun _ _ _ h => h) (Or.inl ⟨by rfl, ?_⟩) ?_ ?_
    rotate_left
    · intro w'
      go_simp
      with_reducible rfl
    rotate_left
    · simp only [Act.put, List.setIfInBounds_toArray, List.set_cons_zero, List.set_cons_succ]
      rfl
    refine take_ (i := 1) (N := some 16) (v := ?_) (a' := ?_) #[true, true, false, false, false, false, false, false, false, false] rfl rfl (by kernel_rfl) (fun _ _ _ h => h) (Or.inl ⟨by rfl, ?_⟩) hHeld ?_ ?_
    rotate_left
    · rintro w' s0
      have c1 := holdsP.c0 (show holdsP w' B _ nm (.slice A l.length c) m from s0)
      go_simp
      with_reducible rfl
    rotate_left
    · simp only [Act.put, List.setIfInBounds_toArray, List.set_cons_zero, List.set_cons_succ]
      rfl
    refine pure_ (i := 3) (N := some 18) (v := ?_) (a' := ?_) #[true, true, false, true, false, false, false, false, false, false] rfl rfl (by kernel_rfl) (fun _ _ _ h => h) (Or.inl ⟨by rfl, ?_⟩) ?_ ?_
    rotate_left
    · intro w'
      go_simp
      with_reducible rfl
    rotate_left
    · simp only [Act.put, List.setIfInBounds_toArray, List.set_cons_zero, List.set_cons_succ]
      rfl
    refine take_ (i := 4) (N := some 19) (v := ?_) (a' := ?_) #[true, true, false, true, true, false, false, false, false, false] rfl rfl (by kernel_rfl) (fun _ _ _ h => h) (Or.inl ⟨by rfl, ?_⟩) hHeld ?_ ?_
    rotate_left
    · rintro w' s0
      have c1 := holdsP.c1 (show holdsP w' B _ nm (.slice A l.length c) m from s0)
      go_simp
      with_reducible rfl
    rotate_left
    · simp only [Act.put, List.setIfInBounds_toArray, List.set_cons_zero, List.set_cons_succ]
      rfl
    refine pure_ (i := 5) (N := some 20) (v := ?_) (a' := ?_) #[true, true, false, true, true, true, false, false, false, false] rfl rfl (by kernel_rfl) (fun _ _ _ h => h) (Or.inl ⟨by rfl, ?_⟩) ?_ ?_
    rotate_left
    · intro w'
      go_simp
      with_reducible rfl
    rotate_left
    · simp only [Act.put, List.setIfInBounds_toArray, List.set_cons_zero, List.set_cons_succ]
      rfl
    refine pure_ (i := 6) (N := some 21) (v := ?_) (a' := ?_) #[true, true, false, true, true, true, true, false, false, false] rfl rfl (by kernel_rfl) (fun _ _ _ h => h) (Or.inl ⟨by rfl, ?_⟩) ?_ ?_
    rotate_left
    · intro w'
      go_simp
      with_reducible rfl
    rotate_left
    · simp only [Act.put, List.setIfInBounds_toArray, List.set_cons_zero, List.set_cons_succ]
      rfl
    refine one_ (i := 2) (N := some 17) #[true, true, true, true, true, true, true, false, false, false] rfl rfl (by kernel_rfl) (by decide) (fun K hK => ?_)
    refine goes_ Try.func44 (by kernel_rfl) rfl #[.string nm] (by rfl) rfl rfl (by simp only [List.map_toArray, List.map_cons, List.map_nil]; rfl) ?_
    refine (HTX.out _).mono ?_
    rintro e W1 ⟨rfl, b1⟩
    refine ⟨_, rfl, ?_⟩
    have HK := Lib.hid (HK.out.trans (b1.mono (Nat.le_trans (Nat.le_of_eq HB.out.symm) HK.out.size)))
    have q0 := hHeld.kept b1 hHeld.lt
    refine hK.out _ _ q0 (fun hHeld => ?_)
    clear hK K b1
    refine norm_ (a' := ?_) ?_ ?_
    rotate_left
    · show Act.put _ (some 17) _ = _
      simp only [Act.put, List.setIfInBounds_toArray, List.set_cons_zero, List.set_cons_succ]
      rfl
    refine one_ (i := 7) (N := some 22) #[true, true, true, true, true, true, true, true, false, false] rfl rfl (by kernel_rfl) (by decide) (fun K hK => ?_)
    refine goes_ Try.func45 (by kernel_rfl) rfl #[.int .u64 (l.length : Int)] (by rfl) rfl rfl (by simp only [List.map_toArray, List.map_cons, List.map_nil]; rfl) ?_
    refine (HUI.out _).mono ?_
    rintro e W1 ⟨rfl, b1⟩
    refine ⟨_, rfl, ?_⟩
    have HK := Lib.hid (HK.out.trans (b1.mono (Nat.le_trans (Nat.le_of_eq HB.out.symm) HK.out.size)))
    have q0 := hHeld.kept b1 hHeld.lt
    refine hK.out _ _ q0 (fun hHeld => ?_)
    clear hK K b1
    refine norm_ (a' := ?_) ?_ ?_
    rotate_left
    · show Act.put _ (some 22) _ = _
      simp only [Act.put, List.setIfInBounds_toArray, List.set_cons_zero, List.set_cons_succ]
      rfl
    refine pure_ (i := 8) (N := some 23) (v := ?_) (a' := ?_) #[true, true, true, true, true, true, true, true, true, false] rfl rfl (by kernel_rfl) (fun _ _ _ h => h) (Or.inl ⟨by rfl, ?_⟩) ?_ ?_
    rotate_left
    · intro w'
      go_simp
      with_reducible rfl
    rotate_left
    · simp only [Act.put, List.setIfInBounds_toArray, List.set_cons_zero, List.set_cons_succ]
      rfl
    refine pure_ (i := 9) (N := some 5) (v := ?_) (a' := ?_) #[true, true, true, true, true, true, true, true, true, true] rfl rfl (by kernel_rfl) (fun _ _ _ h => h) (Or.inl ⟨by rfl, ?_⟩) ?_ ?_
    rotate_left
    · intro w'
      go_simp
      with_reducible rfl
    rotate_left
    · simp only [Act.put, List.setIfInBounds_toArray, List.set_cons_zero, List.set_cons_succ]
      rfl
    refine done_ (by kernel_rfl) ?_
    have c1 := holdsP.c1 (show holdsP _ B _ nm (.slice A l.length c) m from hHeld)
    have hHeld' := hHeld
    clear hne
    go_wp2_with fail
    have hsz : (tn ++ ul).size ≤ 200 := by rw [ByteArray.size_append]; omega
    clear e1 e2 us tz
    generalize hh0 : tn ++ ul = h0_ at *
    clear hh0
    go_loopw [5, 7, 27] (fun v5 _ v wr => ∃ i : Nat, i ≤ l.length ∧ v = .int .i64 i ∧ v5 = .string (accK h0_ l i) ∧ holdsC wr B 25 (profC nm (.slice A l.length c) m) ∧ Below B w wr) (fun _ _ v _ => l.length - (intOf v).toNat)
    case atStart => exact ⟨0, by omega, rfl, rfl, hHeld', HK.out⟩
    case round =>
      obtain ⟨i, hi, rfl, rfl, x0, xb⟩ := hrel
      clear hHeld hHeld' HK c1
      obtain ⟨w20, hw20⟩ : ∃ w20 : World, w20 = wr := ⟨_, rfl⟩
      subst hw20
      by_cases hil : i < l.length
      · have hd : decide ((i : Int) < (l.length : Int)) = true := decide_eq_true (by omega)
        obtain ⟨ad, e5, y0, y1⟩ := at_T72 (HR.out w20 xb) (i : Int) (by omega) (by omega)
        cases e5
        simp only [Int.toNat_natCast] at y0 y1
        rw [rdx] at y0
        rw [rdy] at y1
        have p1 : (0 ≤ (i : Int)) = True := eq_true (by omega)
        have p2 : ((i : Int) < (l.length : Int)) = True := eq_true (by omega)
        have HX := Lib.hid (fun w => int_any (kx l i) w (ks i hil).1)
        have HY := Lib.hid (fun w => int_any (ky l i) w (ks i hil).2)
        have s1 := intS_size (kx l i)
        have s2 := intS_size (ky l i)
        have s3 := accK_size h0_ l i
        have HS : Hid (accK h0_ l (i + 1) = accK h0_ l i ++ (intS (kx l i) ++ intS (ky l i))) := rfl
        generalize accK h0_ l i = s0 at *
        generalize kx l i = kx0 at *
        generalize ky l i = ky0 at *
        have H3 : holdsC (w20.alloc (.cells #[.int .i64 0, .int .i64 0] 72)) w20.heap.size 72 #[.int .i64 0, .int .i64 0] := heap_alloc_new _ _
        have k0_ := (x0.alloc (.cells #[.int .i64 0, .int .i64 0] 72)).setRowOther (g' := w20.heap.size) (by have := x0.lt; omega) #[.int .i64 kx0, .int .i64 ky0]
        have nk0_ : B < w20.heap.size := x0.lt
        have k1_ := holdsC_row H3 #[.int .i64 kx0, .int .i64 ky0]
        have nq1 : B ≤ w20.heap.size := by rw [← HB.out]; exact xb.size
        have kb_ := below_setRow (xb.alloc nq1 (.cells #[.int .i64 0, .int .i64 0] 72)) nq1 #[.int .i64 kx0, .int .i64 ky0]
        go_upto_region 8 with (first | (refine wpList_store_row rfl 72 (.tmp 7) (.tmp 30) rfl _ #[.int .i64 kx0, .int .i64 ky0] rfl rfl 72 _ H3 (by kernel_rfl) rfl (by kernel_rfl) ?_))
        clear H3 x0 xb
        generalize (w20.alloc (.cells #[.int .i64 0, .int .i64 0] 72)).setRow w20.heap.size #[.int .i64 kx0, .int .i64 ky0] = w21 at *
        generalize w20.heap.size = q1 at *
        have k1 := k1_
        have k0 := k0_
        have HK := Lib.hid kb_
        clear k0_ k1_ kb_
        have e3 : (9223372036854775807 < (intS kx0).size + (intS ky0).size) = False := eq_false (by omega)
        have e4 : (9223372036854775807 < s0.size + (intS kx0 ++ intS ky0).size) = False := eq_false (by rw [ByteArray.size_append]; omega)
        generalize intS kx0 = ix at *
        generalize intS ky0 = iy at *
        generalize hxy : ix ++ iy = ixy at *
        refine start_ (n := 10) (S := fun w' => holdsC w' B 25 (profC nm (.slice (some ad) l.length c) m) ∧ holdsC w' q1 72 #[.int .i64 kx0, .int .i64 ky0]) (ds := []) #[false, false, false, false, false, false, false, false, false, false] (by kernel_rfl) rfl rfl ⟨k0, k1⟩ (fun hHeld => ?_)
        have HK := Lib.hid HK.out.drew
        refine pure_ (i := 0) (N := some 31) (v := ?_) (a' := ?_) #[true, false, false, false, false, false, false, false, false, false] rfl rfl (by kernel_rfl) (fun _ _ _ h => h) (Or.inl ⟨by rfl, ?_⟩) ?_ ?_
        rotate_left
        · intro w'
          go_simp
          with_reducible rfl
        rotate_left
        · simp only [Act.put, List.setIfInBounds_toArray, List.set_cons_zero, List.set_cons_succ]
          rfl
        refine pure_ (i := 1) (N := some 32) (v := ?_) (a' := ?_) #[true, true, false, false, false, false, false, false, false, false] rfl rfl (by kernel_rfl) (fun _ _ _ h => h) (Or.inl ⟨by rfl, ?_⟩) ?_ ?_
        rotate_left
        · intro w'
          go_simp
          with_reducible rfl
        rotate_left
        · simp only [Act.put, List.setIfInBounds_toArray, List.set_cons_zero, List.set_cons_succ]
          rfl
        refine take_ (i := 2) (N := some 33) (v := ?_) (a' := ?_) #[true, true, true, false, false, false, false, false, false, false] rfl rfl (by kernel_rfl) (fun _ _ _ h => h) (Or.inl ⟨by rfl, ?_⟩) hHeld ?_ ?_
        rotate_left
        · rintro w' ⟨s0, s1⟩
          have c1 := s1.cell 0 (.int .i64 kx0) rfl
          go_simp
          with_reducible rfl
        rotate_left
        · simp only [Act.put, List.setIfInBounds_toArray, List.set_cons_zero, List.set_cons_succ]
          rfl
        refine pure_ (i := 4) (N := some 35) (v := ?_) (a' := ?_) #[true, true, true, false, true, false, false, false, false, false] rfl rfl (by kernel_rfl) (fun _ _ _ h => h) (Or.inl ⟨by rfl, ?_⟩) ?_ ?_
        rotate_left
        · intro w'
          go_simp
          with_reducible rfl
        rotate_left
        · simp only [Act.put, List.setIfInBounds_toArray, List.set_cons_zero, List.set_cons_succ]
          rfl
        refine take_ (i := 5) (N := some 36) (v := ?_) (a' := ?_) #[true, true, true, false, true, true, false, false, false, false] rfl rfl (by kernel_rfl) (fun _ _ _ h => h) (Or.inl ⟨by rfl, ?_⟩) hHeld ?_ ?_
        rotate_left
        · rintro w' ⟨s0, s1⟩
          have c1 := s1.cell 1 (.int .i64 ky0) rfl
          go_simp
          with_reducible rfl
        rotate_left
        · simp only [Act.put, List.setIfInBounds_toArray, List.set_cons_zero, List.set_cons_succ]
          rfl
        refine one_ (i := 3) (N := some 34) #[true, true, true, true, true, true, false, false, false, false] rfl rfl (by kernel_rfl) (by decide) (fun K hK => ?_)
        refine goes_ Try.func46 (by kernel_rfl) rfl #[.int .i64 kx0] (by rfl) rfl rfl (by simp only [List.map_toArray, List.map_cons, List.map_nil]; rfl) ?_
        refine (HX.out _).mono ?_
        rintro e W1 ⟨rfl, b1⟩
        refine ⟨_, rfl, ?_⟩
        have HK := Lib.hid (HK.out.trans (b1.mono (Nat.le_trans (Nat.le_of_eq HB.out.symm) HK.out.size)))
        have q0 := hHeld.1.kept b1 hHeld.1.lt
        have q1_ := hHeld.2.kept b1 hHeld.2.lt
        refine hK.out _ _ ⟨q0, q1_⟩ (fun hHeld => ?_)
        clear hK K b1
        refine norm_ (a' := ?_) ?_ ?_
        rotate_left
        · show Act.put _ (some 34) _ = _
          simp only [Act.put, List.setIfInBounds_toArray, List.set_cons_zero, List.set_cons_succ]
          rfl
        refine one_ (i := 6) (N := some 37) #[true, true, true, true, true, true, true, false, false, false] rfl rfl (by kernel_rfl) (by decide) (fun K hK => ?_)
        refine goes_ Try.func46 (by kernel_rfl) rfl #[.int .i64 ky0] (by rfl) rfl rfl (by simp only [List.map_toArray, List.map_cons, List.map_nil]; rfl) ?_
        refine (HY.out _).mono ?_
        rintro e W1 ⟨rfl, b1⟩
        refine ⟨_, rfl, ?_⟩
        have HK := Lib.hid (HK.out.trans (b1.mono (Nat.le_trans (Nat.le_of_eq HB.out.symm) HK.out.size)))
        have q0 := hHeld.1.kept b1 hHeld.1.lt
        have q1_ := hHeld.2.kept b1 hHeld.2.lt
        refine hK.out _ _ ⟨q0, q1_⟩ (fun hHeld => ?_)
        clear hK K b1
        refine norm_ (a' := ?_) ?_ ?_
        rotate_left
        · show Act.put _ (some 37) _ = _
          simp only [Act.put, List.setIfInBounds_toArray, List.set_cons_zero, List.set_cons_succ]
          rfl
        refine pure_ (i := 7) (N := some 38) (v := ?_) (a' := ?_) #[true, true, true, true, true, true, true, true, false, false] rfl rfl (by kernel_rfl) (fun _ _ _ h => h) (Or.inl ⟨by rfl, ?_⟩) ?_ ?_
        rotate_left
        · intro w'
          go_simp
          with_reducible rfl
        rotate_left
        · simp only [Act.put, List.setIfInBounds_toArray, List.set_cons_zero, List.set_cons_succ]
          rfl
        refine pure_ (i := 8) (N := some 39) (v := ?_) (a' := ?_) #[true, true, true, true, true, true, true, true, true, false] rfl rfl (by kernel_rfl) (fun _ _ _ h => h) (Or.inl ⟨by rfl, ?_⟩) ?_ ?_
        rotate_left
        · intro w'
          go_simp
          with_reducible rfl
        rotate_left
        · simp only [Act.put, List.setIfInBounds_toArray, List.set_cons_zero, List.set_cons_succ]
          rfl
        refine pure_ (i := 9) (N := some 5) (v := ?_) (a' := ?_) #[true, true, true, true, true, true, true, true, true, true] rfl rfl (by kernel_rfl) (fun _ _ _ h => h) (Or.inl ⟨by rfl, ?_⟩) ?_ ?_
        rotate_left
        · intro w'
          go_simp
          with_reducible rfl
        rotate_left
        · simp only [Act.put, List.setIfInBounds_toArray, List.set_cons_zero, List.set_cons_succ]
          rfl
        refine done_ (by kernel_rfl) ?_
        have z0 := hHeld.1
        go_wp2_with fail
        go_roundw
        case rel => exact ⟨i + 1, by omega, by go_num, by rw [HS.out, ← hxy], z0, HK.out⟩
        case measure => simp [intOf]; omega
      · have hd : decide ((i : Int) < (l.length : Int)) = false := decide_eq_false (by omega)
        obtain rfl : i = l.length := by omega
        have hs3 := accK_size h0_ l l.length
        have HVV : Hid (bytesV nm l m = accM (accK h0_ l l.length) m 9) := HV.out
        generalize accK h0_ l l.length = s1 at *
        go_wp2_with (refine wpList_load_M rfl (.tmp 41) rfl rfl x0 ?_)
        go_loopw [5, 9, 43] (fun v5 _ v wr => ∃ k : Nat, k ≤ 9 ∧ v = .int .i64 k ∧ v5 = .string (accM s1 m k) ∧ holdsC wr B 25 (profC nm (.slice A l.length c) m) ∧ Below B w wr) (fun _ _ v _ => 9 - (intOf v).toNat)
        case atStart => exact ⟨0, by omega, rfl, rfl, x0, xb⟩
        case round =>
          obtain ⟨k, hk, rfl, rfl, z0, zb⟩ := hrel
          clear x0 xb hd
          by_cases hk9 : k < 9
          · have HX := Lib.hid (fun w => int_any (m k) w (ms k hk9))
            have t1 := intS_size (m k)
            have t2 := accM_size s1 m k
            have HS : Hid (accM s1 m (k + 1) = accM s1 m k ++ intS (m k)) := rfl
            have e4 : (accM s1 m k).size + (intS (m k)).size ≤ 9223372036854775807 := by omega
            have hidx := run_index_arr (P := Try.prog) 23 3 9 m k hk9 Try.underlying23 (by kernel_rfl) (fun _ => by kernel_rfl)
            generalize accM s1 m k = s2 at *
            skip
            generalize hik : intS (m k) = ik at *
            go_wp2_with fail
            refine (HX.out _).mono ?_; rintro e w21 ⟨rfl, b1⟩
            have z1 := z0.kept b1 z0.lt
            have zb1 := zb.trans (b1.mono (Nat.le_trans (Nat.le_of_eq HB.out.symm) zb.size))
            clear z0 zb b1
            go_wp2_with fail
            go_roundw
            case rel => exact ⟨k + 1, by omega, by go_num, by rw [HS.out], z1, zb1⟩
            case measure => simp [intOf]; omega
          · obtain rfl : k = 9 := by omega
            go_wp2
            go_ret2
            exact ⟨by rw [HP.out, HVV.out, hpc]; rfl, by rw [HB.out]; exact zb⟩
  · have hne : (pc == 0) = false := by simpa using hpc
    go_wp2
    go_ret2
    exact ⟨by rw [HP1.out hpc]; rfl, by rw [HB.out]; exact gb_⟩
end Go.Proofs.Ytlpfepcmpccbeaa.Pf
/-
  The reference's Bytes.
-/
namespace Go.Proofs.Ytlpfepcmpccbeaa.Pf
open Go.RowKit Go.Proofs.Ytlpfepcmpccbeaa.Wi Go.Proofs.Ytlpfepcmpccbeaa.NM Go.Proofs.Ytlpfepcmpccbeaa.Cv Go.Proofs.Ytlpfepcmpccbeaa.Nm9 Go.Proofs.Ytlpfepcmpccbeaa.Mx Go.Proofs.Ytlpfepcmpccbeaa.PNum Go.Proofs.YtlpfepcmpccbeaaW.PrintWords Go.Proofs.YtlpfepcmpccbeaaW.PrintMore Go.Proofs.YtlpfepcmpccbeaaW.PrintLast
set_option linter.unusedVariables false
end Go.Proofs.Ytlpfepcmpccbeaa.Pf
