/-
  Whole matrices, the identity, == of two arrays of ints.
-/
import Derived.Test.YteehnbgkgdhgaaaMx8
import Derived.Laws.StructEq
namespace Go.Proofs.Yteehnbgkgdhgaaa.Mx
open Go.RowKit Go.Proofs.Yteehnbgkgdhgaaa.NM Go.Proofs.Yteehnbgkgdhgaaa.Spec Go.Proofs.YteehnbgkgdhgaaaW.PrintWords Go.Proofs.YteehnbgkgdhgaaaW.PrintMore
set_option linter.unusedVariables false

/-- do the two agree on the first n places? -/
def eqN (n : Nat) (m p : Nat → Int) : Bool := decide (∀ k, k < n → m k = p k)
theorem eqN_true {n : Nat} {m p : Nat → Int} (h : ∀ k, k < n → m k = p k) : eqN n m p = true := decide_eq_true h
theorem eqN_refl (n : Nat) (m : Nat → Int) : eqN n m m = true := eqN_true fun _ _ => rfl

theorem run_equalIn_arr {P : Program} (w : World) (d n : Nat) (t e : TypeId) (m p : Nat → Int) (hu : P.underlying t = some (.array n e)) (hk : P.underlying e = some (.int .i64)) (hs : (P.info? e).map (·.size) = some 1) (ha : ∀ w, (isAgg e).run P w = .ok false w) :
    (Op.equalIn (d + 1 + 1) t (.agg (arrN n m)) (.agg (arrN n p))).run P w = .ok (eqN n m p) w := by
  cases hi : P.info? e with
  | none => simp [hi] at hs
  | some i =>
    have hs1 : i.size = 1 := by simpa [hi] using hs
    have hp : ∀ (q : Nat → Int) (k : Nat), k < n → ∀ w, (part e (arrN n q) k).run P w = .ok (.int .i64 (q k)) w := by
      intro q k hk w
      simp [part, ha w, arrN_get n q k hk]
    have he : ∀ a b w, (Op.equalIn (d + 1) e (.int .i64 a) (.int .i64 b)).run P w = .ok (a == b) w := fun a b w => run_equalIn_int w d e .i64 .i64 a b hk
    rw [Op.equalIn.eq_def]
    simp only [Sem.run_bind, run_underlying hu, Result.andThen_ok]
    simp [sizeOf, typeInfo, hi, hs1]
    rw [show eqN n m p = decide (∀ k, k ∈ List.range' 0 n → m k = p k) by unfold eqN; congr 1; apply propext; simp [List.mem_range'_1]]
    have hl : ∀ k, k ∈ List.range' 0 n → k < n := by intro k hk; simpa [List.mem_range'_1] using hk
    revert hl
    generalize List.range' 0 n = l
    intro hl
    induction l generalizing w with
    | nil => simp
    | cons a l ih =>
      have ih' := ih w (fun k hk => hl k (by simp [hk]))
      have hla := hl a (by simp)
      by_cases hab : m a = p a
      · simp only [List.forIn_cons, Sem.run_bind, hp m a hla, hp p a hla, he, Result.andThen_ok, hab, beq_self_eq_true, Bool.true_eq_false, if_false, Sem.run_pure] at ih' ⊢
        rw [ih']
        simp [hab]
      · simp [List.forIn_cons, hp m a hla, hp p a hla, he, hab]
/-- == and != of two arrays of 9, of 3 -/
theorem eq9 (m p : Nat → Int) (w : World) : (Op.equalIn 10000 22 (.agg (arrN 9 m)) (.agg (arrN 9 p))).run Try.prog w = .ok (eqN 9 m p) w :=
  run_equalIn_arr w 9998 9 22 3 m p Try.underlying22 Try.underlying3 (by kernel_rfl) (fun _ => by kernel_rfl)
theorem eq3 (m p : Nat → Int) (w : World) : (Op.equalIn 10000 23 (.agg (arrN 3 m)) (.agg (arrN 3 p))).run Try.prog w = .ok (eqN 3 m p) w :=
  run_equalIn_arr w 9998 3 23 3 m p Try.underlying23 Try.underlying3 (by kernel_rfl) (fun _ => by kernel_rfl)
theorem eg9 : Try.prog.eqGuardType Try.prog.depth 22 = false := by kernel_rfl
theorem eg3 : Try.prog.eqGuardType Try.prog.depth 23 = false := by kernel_rfl

/-- a matrix of whole numbers -/
def wholeM (l : Nat → Int) : Nat → Int := fun k => l k * 65536
/-- the identity -/
def sameM : Nat → Int := fun k => if k % 4 = 0 then 65536 else 0

set_option maxHeartbeats 1000000 in
theorem whole_any (l : Nat → Int) (w : World) (hl : ∀ k, k < 9 → -1048577 ≤ l k ∧ l k ≤ 1048577) :
    Calls Try.prog 25 #[.agg (arrN 9 l)] w fun e w' => e = .returned (.agg (arrN 9 (wholeM l))) ∧ Below w.heap.size w w' := by
  have HL := Lib.hid hl
  clear hl
  have HW : Hid (∀ k, wholeM l k = l k * 65536) := fun _ => rfl
  go_enter Try.func25, Try.ntmps25
  go_upto_region 1 with fail
  rw [zero9]
  have h0 : holdsN ((w.alloc (.cells (arrN 9 l) 22)).alloc (.cells (arrN 9 (fun _ => 0)) 22)) (w.heap.size) 22 9 l := (holdsN_new w 22 9 l).alloc (.cells (arrN 9 (fun _ => 0)) 22)
  have h1 : holdsN ((w.alloc (.cells (arrN 9 l) 22)).alloc (.cells (arrN 9 (fun _ => 0)) 22)) (w.heap.size + 1) 22 9 (fun _ => 0) := by
    have := holdsN_new (w.alloc (.cells (arrN 9 l) 22)) 22 9 (fun _ => 0)
    simpa using this
  have hb : Below w.heap.size w ((w.alloc (.cells (arrN 9 l) 22)).alloc (.cells (arrN 9 (fun _ => 0)) 22)) := ((Below.refl _ _).alloc (Nat.le_refl _) _).alloc (by simp) _
  have hs : w.heap.size + 1 < ((w.alloc (.cells (arrN 9 l) 22)).alloc (.cells (arrN 9 (fun _ => 0)) 22)).heap.size := by simp
  generalize ((w.alloc (.cells (arrN 9 l) 22)).alloc (.cells (arrN 9 (fun _ => 0)) 22)) = wc at *
  generalize hB : w.heap.size = B at *
  have HB := Lib.hid hB
  clear hB
  go_wp2_with fail
  go_loopw [3, 4] (fun _ v wr => ∃ (k : Nat) (p : Nat → Int), k ≤ 9 ∧ v = .int .i64 k ∧ Hid (∀ j, p j = if j < k then wholeM l j else l j) ∧ holdsN wr B 22 9 p ∧ holdsN wr (B + 1) 22 9 (fun _ => 0) ∧ Below B w wr ∧ B + 1 < wr.heap.size) (fun _ v _ => 9 - (intOf v).toNat)
  case atStart => exact ⟨0, l, by omega, rfl, fun j => by simp, h0, h1, hb, hs⟩
  case round =>
    obtain ⟨k, p, hk, rfl, hp, k0, k1, kb, ks⟩ := hrel
    clear h0 h1 hb hs
    by_cases hk9 : k < 9
    · have c1 := k0.cell k hk9
      rw [hp.out k, if_neg (by omega)] at c1
      have c2 := k0.free k
      have hr := HL.out k hk9
      have hp' : Hid (∀ j, upd p k (l k * 65536) j = if j < k + 1 then wholeM l j else l j) := by
        intro j
        unfold upd
        by_cases hj : j = k
        · rw [if_pos hj, if_pos (by omega), hj, HW.out]
        · rw [if_neg hj, hp.out j]
          by_cases hj2 : j < k
          · rw [if_pos hj2, if_pos (by omega)]
          · rw [if_neg hj2, if_neg (by omega)]
      generalize l k = x at *
      obtain ⟨hr0, hr1⟩ := hr
      go_wp2
      go_roundw
      case rel => exact ⟨k + 1, _, by omega, by go_num, hp', k0.set k (x * 65536), k1.setOther (by omega) _, kb.setCell (Nat.le_refl _) _, by simpa [World.setCell] using ks⟩
      case measure => simp [intOf]; omega
    · obtain rfl : k = 9 := by omega
      have hq : Hid (arrN 9 p = arrN 9 (wholeM l)) := arrN_congr fun j hj => by rw [hp.out j, if_pos hj]
      have K1 := Lib.hid k1
      clear k1
      go_wp2_with (first
        | (refine wpList_load_arr rfl 22 (.tmp 1) rfl rfl k0 Try.underlying22 hi9 ?_)
        | (refine wpList_store_arr rfl 22 (.tmp 2) (.tmp 13) rfl rfl rfl K1.out (arrN_size _ _) hi9 ?_))
      refine bodyPost_ret (v := .agg (arrN 9 p)) (results_cell_row rfl _ _ (B + 1) 22 _ _ _ rfl (holdsN_row K1.out p) Try.underlying22 rfl (by rw [arrN_size]; exact hi9)) rfl ?_
      exact ⟨by rw [hq.out], by rw [HB.out]; exact below_setRow kb (by omega) _⟩

set_option maxHeartbeats 1000000 in
theorem same_any (w : World) :
    Calls Try.prog 21 #[] w fun e w' => e = .returned (.agg (arrN 9 sameM)) ∧ Below w.heap.size w w' := by
  go_enter Try.func21, Try.ntmps21
  go_upto_region 2 with fail
  rw [zero9]
  have h0 : holdsN ((w.alloc (.cells (arrN 9 (fun _ => 0)) 22)).alloc (.cells (arrN 9 (fun _ => 0)) 22)) (w.heap.size) 22 9 (fun _ => 0) := (holdsN_new w 22 9 (fun _ => 0)).alloc (.cells (arrN 9 (fun _ => 0)) 22)
  have h1 : holdsN ((w.alloc (.cells (arrN 9 (fun _ => 0)) 22)).alloc (.cells (arrN 9 (fun _ => 0)) 22)) (w.heap.size + 1) 22 9 (fun _ => 0) := by
    have := holdsN_new (w.alloc (.cells (arrN 9 (fun _ => 0)) 22)) 22 9 (fun _ => 0)
    simpa using this
  have hb : Below w.heap.size w ((w.alloc (.cells (arrN 9 (fun _ => 0)) 22)).alloc (.cells (arrN 9 (fun _ => 0)) 22)) := ((Below.refl _ _).alloc (Nat.le_refl _) _).alloc (by simp) _
  have hs : w.heap.size + 1 < ((w.alloc (.cells (arrN 9 (fun _ => 0)) 22)).alloc (.cells (arrN 9 (fun _ => 0)) 22)).heap.size := by simp
  generalize ((w.alloc (.cells (arrN 9 (fun _ => 0)) 22)).alloc (.cells (arrN 9 (fun _ => 0)) 22)) = wc at *
  generalize hB : w.heap.size = B at *
  have HB := Lib.hid hB
  clear hB
  go_wp2_with fail
  go_loopw [2, 3] (fun _ v wr => ∃ (k : Nat) (p : Nat → Int), k ≤ 3 ∧ v = .int .i64 k ∧ Hid (∀ j, p j = if j < 4 * k ∧ j % 4 = 0 then 65536 else 0) ∧ holdsN wr (B + 1) 22 9 p ∧ holdsN wr B 22 9 (fun _ => 0) ∧ Below B w wr ∧ B + 1 < wr.heap.size) (fun _ v _ => 3 - (intOf v).toNat)
  case atStart => exact ⟨0, fun _ => 0, by omega, rfl, fun j => by simp, h1, h0, hb, hs⟩
  case round =>
    obtain ⟨k, p, hk, rfl, hp, k1, k0, kb, ks⟩ := hrel
    clear h0 h1 hb hs
    by_cases hk3 : k < 3
    · have c1 := k1.cell (4 * k) (by omega)
      have c2 := k1.free (4 * k)
      have hp' : Hid (∀ j, upd p (4 * k) 65536 j = if j < 4 * (k + 1) ∧ j % 4 = 0 then 65536 else 0) := by
        intro j
        unfold upd
        by_cases hj : j = 4 * k
        · rw [if_pos hj, if_pos (by omega)]
        · rw [if_neg hj, hp.out j]
          by_cases hj2 : j < 4 * k ∧ j % 4 = 0
          · rw [if_pos hj2, if_pos (by omega)]
          · rw [if_neg hj2, if_neg (by omega)]
      go_wp2
      go_roundw
      case rel => exact ⟨k + 1, _, by omega, by go_num, hp', k1.set (4 * k) 65536, k0.setOther (by omega) _, kb.setCell (by show B ≤ B + 1; omega) _, by simpa [World.setCell] using ks⟩
      case measure => simp [intOf]; omega
    · obtain rfl : k = 3 := by omega
      have hq : Hid (arrN 9 p = arrN 9 sameM) := arrN_congr fun j hj => by
        rw [hp.out j]
        unfold sameM
        by_cases hj4 : j % 4 = 0
        · rw [if_pos ⟨by omega, hj4⟩, if_pos hj4]
        · rw [if_neg (fun h => hj4 h.2), if_neg hj4]
      have K0 := Lib.hid k0
      clear k0
      go_wp2_with (first
        | (refine wpList_load_arr rfl 22 (.tmp 1) rfl rfl k1 Try.underlying22 hi9 ?_)
        | (refine wpList_store_arr rfl 22 (.tmp 0) (.tmp 10) rfl rfl rfl K0.out (arrN_size _ _) hi9 ?_))
      refine bodyPost_ret (v := .agg (arrN 9 p)) (results_cell_row rfl _ _ B 22 _ _ _ rfl (holdsN_row K0.out p) Try.underlying22 rfl (by rw [arrN_size]; exact hi9)) rfl ?_
      exact ⟨by rw [hq.out], by rw [HB.out]; exact below_setRow kb (by omega) _⟩
end Go.Proofs.Yteehnbgkgdhgaaa.Mx
