/-
  MatrixDets: the walk.
-/
import Derived.Test.YteehnbgkgdhgaaaMx10
import Derived.Test.YteehnbgkgdhgaaaMxD
import Derived.Test.YteehnbgkgdhgaaaMxR
import Derived.Test.YteehnbgkgdhgaaaWLast
import Derived.Deep.RegionHeld3
namespace Go.Proofs.Yteehnbgkgdhgaaa.Mx
open Go.RowKit Go.Proofs.Yteehnbgkgdhgaaa.NM Go.Proofs.Yteehnbgkgdhgaaa.Spec Go.Proofs.YteehnbgkgdhgaaaW.PrintWords Go.Proofs.YteehnbgkgdhgaaaW.PrintMore
attribute [local go_sem] eq9 eq3 eg9 eg3 eqN_refl
set_option linter.unusedVariables false

open Go.Proofs.YteehnbgkgdhgaaaW.PrintLast
/-- the block g holds these cells -/
def holdsV (w : World) (g t : Nat) (c : Array Value) : Prop := w.heap[g]? = some (.cells c t (0, 0))
theorem holdsV.lt {w : World} {g t : Nat} {c : Array Value} (h : holdsV w g t c) : g < w.heap.size := (Array.getElem?_eq_some_iff.1 h).1
theorem holdsV.alloc {w : World} {g t : Nat} {c : Array Value} (h : holdsV w g t c) (o : Obj) : holdsV (w.alloc o) g t c := by
  unfold holdsV
  have hl := h.lt
  show (w.heap.push o)[g]? = _
  rw [Array.getElem?_push, if_neg (by omega)]; exact h
theorem holdsV.setOther {w : World} {g t g' k : Nat} {c : Array Value} (h : holdsV w g t c) (hne : g ≠ g') (v : Value) : holdsV (w.setCell ⟨g', k, none⟩ v) g t c := by
  unfold holdsV at *
  rw [← h]
  simp only [World.setCell]
  rw [Array.getElem?_modify, if_neg (by omega)]
theorem holdsV.cell8 {w : World} {g t n : Nat} {a : Nat → Int} (h : holdsV w g t (arrK .i8 n a)) (k : Nat) (hk : k < n) : w.cell? ⟨g, k, none⟩ = some (.int .i8 (a k)) := by
  rw [cell_of_row w g k _ t _ h, arrK_get .i8 n a k hk]
theorem holdsV_new (w : World) (t : Nat) (c : Array Value) : holdsV (w.alloc (.cells c t)) w.heap.size t c := heap_alloc_new _ _
theorem exec_load9 {o : Oper} {a : Act} {w : World} {x : Operand} {g t : Nat} {m : Nat → Int} (ho : o.op = .load 22 x) (hx : a.eval x = .pointer (some ⟨g, 0, none⟩)) (hh : holdsN w g t 9 m) :
    (execOp a.eval o).run Try.prog w = .ok (.value (.agg (arrN 9 m))) w := by
  unfold execOp
  simp only [ho, hx, Sem.run_bind, run_loadAt_arr (P := Try.prog) 22 hh Try.underlying22 hi9, Result.andThen_ok, Sem.run_pure]
theorem exec_alloc9 {o : Oper} {a : Act} {w : World} (ho : o.op = .alloc 22) :
    (execOp a.eval o).run Try.prog w = .ok (.value (.pointer (some ⟨w.heap.size, 0, none⟩))) (w.alloc (.cells (arrN 9 fun _ => 0) 22)) := by
  unfold execOp
  simp only [ho]
  rw [← zero9]
  go_simp
theorem exec_store9 {o : Oper} {a : Act} {w : World} {x y : Operand} {g t : Nat} {m : Nat → Int} {old : Array Value} (ho : o.op = .store 22 x y) (hx : a.eval x = .pointer (some ⟨g, 0, none⟩)) (hy : a.eval y = .agg (arrN 9 m)) (hg : w.heap[g]? = some (.cells old t (0, 0))) (hold : old.size = 9) :
    (execOp a.eval o).run Try.prog w = .ok .skip (w.setRow g (arrN 9 m)) := by
  unfold execOp
  simp only [ho, hx, hy, Instr.storeAt, Instr.sureAddr, Sem.run_bind, Sem.run_pure, Result.andThen_ok, run_storeVar_row w g t 22 old (arrN 9 m) hg (by rw [arrN_size]; exact hi9) (by rw [arrN_size]; exact hold) (arrN_one 9 m)]
def xsOf (a : Nat → Int) : Nat → Int := fun k => (a k).tmod 3

set_option maxHeartbeats 4000000 in
theorem dets_walk (a b : Nat → Int) (w : World) (ha : ∀ k, k < 9 → (Lit.int .i8 (a k)).wf = true) (hb' : ∀ k, k < 9 → (Lit.int .i8 (b k)).wf = true) :
    Calls Try.prog 6 #[.agg (arrK .i8 9 a), .agg (arrK .i8 9 b)] w fun e w' => e = .returned (.bool true) ∧ Below w.heap.size w w' := by
  clear ha hb'
  go_enter Try.func6, Try.ntmps6
  go_upto_region 2 with fail
  rw [zero9]
  have h0 : holdsV ((((w.alloc (.cells (arrK .i8 9 a) 35)).alloc (.cells (arrK .i8 9 b) 35)).alloc (.cells (arrN 9 (fun _ => 0)) 22)).alloc (.cells (arrN 9 (fun _ => 0)) 22)) (w.heap.size) 35 (arrK .i8 9 a) := (((holdsV_new w 35 (arrK .i8 9 a)).alloc (.cells (arrK .i8 9 b) 35)).alloc (.cells (arrN 9 (fun _ => 0)) 22)).alloc (.cells (arrN 9 (fun _ => 0)) 22)
  have h1 : holdsV ((((w.alloc (.cells (arrK .i8 9 a) 35)).alloc (.cells (arrK .i8 9 b) 35)).alloc (.cells (arrN 9 (fun _ => 0)) 22)).alloc (.cells (arrN 9 (fun _ => 0)) 22)) (w.heap.size + 1) 35 (arrK .i8 9 b) := by
    have := ((holdsV_new (w.alloc (.cells (arrK .i8 9 a) 35)) 35 (arrK .i8 9 b)).alloc (.cells (arrN 9 (fun _ => 0)) 22)).alloc (.cells (arrN 9 (fun _ => 0)) 22)
    simpa using this
  have h2 : holdsN ((((w.alloc (.cells (arrK .i8 9 a) 35)).alloc (.cells (arrK .i8 9 b) 35)).alloc (.cells (arrN 9 (fun _ => 0)) 22)).alloc (.cells (arrN 9 (fun _ => 0)) 22)) (w.heap.size + 1 + 1) 22 9 (fun _ => 0) := by
    have := (holdsN_new ((w.alloc (.cells (arrK .i8 9 a) 35)).alloc (.cells (arrK .i8 9 b) 35)) 22 9 (fun _ => 0)).alloc (.cells (arrN 9 (fun _ => 0)) 22)
    simpa using this
  have h3 : holdsN ((((w.alloc (.cells (arrK .i8 9 a) 35)).alloc (.cells (arrK .i8 9 b) 35)).alloc (.cells (arrN 9 (fun _ => 0)) 22)).alloc (.cells (arrN 9 (fun _ => 0)) 22)) (w.heap.size + 1 + 1 + 1) 22 9 (fun _ => 0) := by
    have := holdsN_new (((w.alloc (.cells (arrK .i8 9 a) 35)).alloc (.cells (arrK .i8 9 b) 35)).alloc (.cells (arrN 9 (fun _ => 0)) 22)) 22 9 (fun _ => 0)
    simpa using this
  have hb : Below w.heap.size w ((((w.alloc (.cells (arrK .i8 9 a) 35)).alloc (.cells (arrK .i8 9 b) 35)).alloc (.cells (arrN 9 (fun _ => 0)) 22)).alloc (.cells (arrN 9 (fun _ => 0)) 22)) := ((((Below.refl _ _).alloc (Nat.le_refl _) _).alloc (by simp) _).alloc (by simp; omega) _).alloc (by simp; omega) _
  have hs : w.heap.size + 1 + 1 + 1 < ((((w.alloc (.cells (arrK .i8 9 a) 35)).alloc (.cells (arrK .i8 9 b) 35)).alloc (.cells (arrN 9 (fun _ => 0)) 22)).alloc (.cells (arrN 9 (fun _ => 0)) 22)).heap.size := by simp
  generalize ((((w.alloc (.cells (arrK .i8 9 a) 35)).alloc (.cells (arrK .i8 9 b) 35)).alloc (.cells (arrN 9 (fun _ => 0)) 22)).alloc (.cells (arrN 9 (fun _ => 0)) 22)) = wc at *
  generalize hB : w.heap.size = B at *
  have HB := Lib.hid hB
  clear hB
  go_wp2_with fail
  go_loopw [7, 12] (fun _ v wr => ∃ (k : Nat) (p q : Nat → Int), k ≤ 9 ∧ v = .int .i64 k ∧ Hid (Upto k p (xsOf a)) ∧ Hid (Upto k q (xsOf b)) ∧ holdsV wr B 35 (arrK .i8 9 a) ∧ holdsV wr (B + 1) 35 (arrK .i8 9 b) ∧ holdsN wr (B + 1 + 1) 22 9 p ∧ holdsN wr (B + 1 + 1 + 1) 22 9 q ∧ Below B w wr) (fun _ v _ => 9 - (intOf v).toNat)
  case atStart => exact ⟨0, fun _ => 0, fun _ => 0, by omega, rfl, fun j hj => absurd hj (by omega), fun j hj => absurd hj (by omega), h0, h1, h2, h3, hb⟩
  case round =>
    obtain ⟨k, p, q, hk, rfl, hp, hq, k0, k1, k2, k3, kb⟩ := hrel
    clear h0 h1 h2 h3 hb hs
    by_cases hk9 : k < 9
    · have c0 := k0.cell8 k hk9
      have c1 := k1.cell8 k hk9
      have c2 := k2.cell k hk9
      have c3 := k2.free k
      have c4 := k3.cell k hk9
      have c5 := k3.free k
      have hp' : Hid (Upto (k + 1) (upd p k (xsOf a k)) (xsOf a)) := hp.out.step
      have hq' : Hid (Upto (k + 1) (upd q k (xsOf b k)) (xsOf b)) := hq.out.step
      have hx := small_tmod a k
      have hy := small_tmod b k
      have ex : xsOf a k = (a k).tmod 3 := rfl
      have ey : xsOf b k = (b k).tmod 3 := rfl
      rw [ex] at hp'
      rw [ey] at hq'
      clear ex ey
      simp only [] at hx hy
      have e1 : IntKind.i8.wrap ((a k).tmod 3) = (a k).tmod 3 := IntWalk.i8_in _ (by omega)
      have e2 : IntKind.i8.wrap ((b k).tmod 3) = (b k).tmod 3 := IntWalk.i8_in _ (by omega)
      have e3 : IntKind.i64.wrap ((a k).tmod 3) = (a k).tmod 3 := IntWalk.i64_in _ (by omega)
      have e4 : IntKind.i64.wrap ((b k).tmod 3) = (b k).tmod 3 := IntWalk.i64_in _ (by omega)
      have x0a : (0 : Int) ≤ (k : Int) := by omega
      have x0b : (k : Int) < 9 := by omega
      have x0c : ((k : Int)).toNat = k := by omega
      go_wp2_with fail
      have n1 : B ≠ B + 1 + 1 := by omega
      have n2 : B + 1 + 1 ≠ B := by omega
      have n3 : B + 1 + 1 + 1 ≠ B := by omega
      have n4 : B ≠ B + 1 + 1 + 1 := by omega
      have n5 : B + 1 + 1 + 1 ≠ B + 1 := by omega
      have n6 : B + 1 ≠ B + 1 + 1 + 1 := by omega
      go_region_held3 (fun w' => w'.cell? ⟨B, k, none⟩ = some (.int .i8 (a k)) ∧ w'.cell? ⟨B + 1, k, none⟩ = some (.int .i8 (b k))) (go_keep) (fail)
      go_wp2
      go_roundw
      case rel => exact ⟨k + 1, _, _, by omega, by go_num, hp', hq', (k0.setOther n1 _).setOther n4 _, (k1.setOther (by omega) _).setOther n6 _, (k2.set k _).setOther (by omega) _, (k3.setOther (by omega) _).set k _, ((kb.setCell (by show B ≤ B + 1 + 1; omega) _).setCell (by show B ≤ B + 1 + 1 + 1; omega) _).drew⟩
      case measure => simp [intOf]; omega
    · obtain rfl : k = 9 := by omega
      have k2' : holdsN wr (B + 1 + 1) 22 9 (xsOf a) := by
        have := k2; unfold holdsN at *; rw [← hp.out.arr]; exact this
      have k3' : holdsN wr (B + 1 + 1 + 1) 22 9 (xsOf b) := by
        have := k3; unfold holdsN at *; rw [← hq.out.arr]; exact this
      clear k0 k1 k2 k3 hp hq
      have sa := small_tmod a
      have sb := small_tmod b
      have HWA : Hid (∀ k, k < 9 → -1048577 ≤ xsOf a k ∧ xsOf a k ≤ 1048577) := fun k _ => by have := sa k; unfold xsOf; simp only [] at this; omega
      have HWB : Hid (∀ k, k < 9 → -1048577 ≤ xsOf b k ∧ xsOf b k ≤ 1048577) := fun k _ => by have := sb k; unfold xsOf; simp only [] at this; omega
      have SA : Hid (small (xsOf a)) := sa
      have SB : Hid (small (xsOf b)) := sb
      clear sa sb
      go_wp2_with fail
      go_cut [8, 9] (fun s8 s9 wx => ∃ g h, s8 = .pointer (some ⟨g, 0, none⟩) ∧ s9 = .pointer (some ⟨h, 0, none⟩) ∧ holdsN wx g 22 9 (wholeM (xsOf a)) ∧ holdsN wx h 22 9 (wholeM (xsOf b)) ∧ Below B w wx)
      case first =>
        rename_i K0 hK0
        have rl : ∀ w' : World, (holdsN w' (B + 1 + 1) 22 9 (xsOf a) ∧ holdsN w' (B + 1 + 1 + 1) 22 9 (xsOf b)) → True := fun _ _ => trivial
        refine start_ (n := 8) (S := fun w' => holdsN w' (B + 1 + 1) 22 9 (xsOf a) ∧ holdsN w' (B + 1 + 1 + 1) 22 9 (xsOf b)) (ds := []) #[false, false, false, false, false, false, false, false] (by kernel_rfl) rfl rfl ⟨k2', k3'⟩ (fun hHeld => ?_)
        refine take_ (i := 0) (N := some 30) (v := .agg (arrN 9 (xsOf a))) (a' := ?_) #[true, false, false, false, false, false, false, false] rfl rfl (by kernel_rfl) (fun _ _ _ h => h) (Or.inl ⟨by rfl, fun w' s => exec_load9 rfl rfl s.1⟩) hHeld ?_ ?_
        rotate_left
        · simp only [Act.put, List.setIfInBounds_toArray, List.set_cons_zero, List.set_cons_succ]
          rfl
        refine take_ (i := 2) (N := some 32) (v := .agg (arrN 9 (xsOf b))) (a' := ?_) #[true, false, true, false, false, false, false, false] rfl rfl (by kernel_rfl) (fun _ _ _ h => h) (Or.inl ⟨by rfl, fun w' s => exec_load9 rfl rfl s.2⟩) hHeld ?_ ?_
        rotate_left
        · simp only [Act.put, List.setIfInBounds_toArray, List.set_cons_zero, List.set_cons_succ]
          rfl
        have hx := hHeld.1
        have hy := hHeld.2
        have hb : Below B w wr.drew := kb.drew
        clear k2' k3' kb rl hHeld
        generalize wr.drew = W at *
        refine three_ (i := 1) (j := 4) (k := 5) (Ni := some 31) (Nj := some 8) (Nk := some 9) #[true, true, true, false, false, false, false, false] #[true, false, true, false, true, false, false, false] #[true, false, true, false, false, true, false, false] rfl rfl rfl rfl rfl rfl (by kernel_rfl) (by decide) (by decide) (by decide) (fun K hK => ?_) (fun K hK => ?_) (fun K hK => ?_)
        · refine goes_ Try.func25 (by kernel_rfl) rfl #[.agg (arrN 9 (xsOf a))] (by rfl) rfl rfl (by simp only [List.map_toArray, List.map_cons, List.map_nil]; rfl) ?_
          refine (whole_any (xsOf a) _ HWA.out).mono ?_
          rintro e W1 ⟨rfl, b1⟩
          refine ⟨_, rfl, ?_⟩
          have hb := hb.trans (b1.mono (by rw [← HB.out]; exact hb.size))
          have hx := hx.kept b1 hx.lt
          have hy := hy.kept b1 hy.lt
          refine hK.out _ _ ⟨hx, hy⟩ (fun hHeld => ?_)
          clear hK K b1 hHeld
          refine norm_ (a' := ?_) ?_ ?_
          rotate_left
          · show Act.put _ (some 31) _ = _
            simp only [Act.put, List.setIfInBounds_toArray, List.set_cons_zero, List.set_cons_succ]
            rfl
          refine three_ (i := 3) (j := 4) (k := 5) (Ni := some 33) (Nj := some 8) (Nk := some 9) #[true, true, true, true, false, false, false, false] #[true, true, true, false, true, false, false, false] #[true, true, true, false, false, true, false, false] rfl rfl rfl rfl rfl rfl (by kernel_rfl) (by decide) (by decide) (by decide) (fun K hK => ?_) (fun K hK => ?_) (fun K hK => ?_)
          · refine goes_ Try.func25 (by kernel_rfl) rfl #[.agg (arrN 9 (xsOf b))] (by rfl) rfl rfl (by simp only [List.map_toArray, List.map_cons, List.map_nil]; rfl) ?_
            refine (whole_any (xsOf b) _ HWB.out).mono ?_
            rintro e W2 ⟨rfl, b1⟩
            refine ⟨_, rfl, ?_⟩
            have hb := hb.trans (b1.mono (by rw [← HB.out]; exact hb.size))
            have hx := hx.kept b1 hx.lt
            have hy := hy.kept b1 hy.lt
            refine hK.out _ _ ⟨hx, hy⟩ (fun hHeld => ?_)
            clear hK K b1 hHeld
            refine norm_ (a' := ?_) ?_ ?_
            rotate_left
            · show Act.put _ (some 33) _ = _
              simp only [Act.put, List.setIfInBounds_toArray, List.set_cons_zero, List.set_cons_succ]
              rfl
            refine two_ (i := 4) (j := 5) (Ni := some 8) (Nj := some 9) #[true, true, true, true, true, false, false, false] #[true, true, true, true, false, true, false, false] rfl rfl rfl rfl (by kernel_rfl) (by decide) (by decide) (fun K hK => ?_) (fun K hK => ?_)
            · have lx4 := hx.lt
              have ly4 := hy.lt
              have lb4 : B ≤ W2.heap.size := by rw [← HB.out]; exact hb.size
              refine value_ (by rfl) rfl (exec_alloc9 rfl) ?_
              have hx := hx.alloc (.cells (arrN 9 fun _ => 0) 22)
              have hy := hy.alloc (.cells (arrN 9 fun _ => 0) 22)
              have z4 := holdsN_new (W2) 22 9 (fun _ => 0)
              have hb := hb.alloc lb4 (.cells (arrN 9 fun _ => 0) 22)
              refine hK.out _ _ ⟨hx, hy⟩ (fun hHeld => ?_)
              clear hK K hHeld
              refine norm_ (a' := ?_) ?_ ?_
              rotate_left
              · show Act.put _ (some 8) _ = _
                simp only [Act.put, List.setIfInBounds_toArray, List.set_cons_zero, List.set_cons_succ]
                rfl
              generalize (W2).alloc (.cells (arrN 9 fun _ => 0) 22) = W3 at *
              generalize W2.heap.size = g3 at *
              refine one_ (i := 5) (N := some 9) #[true, true, true, true, true, true, false, false] rfl rfl (by kernel_rfl) (by decide) (fun K hK => ?_)
              have lx5 := hx.lt
              have ly5 := hy.lt
              have lb5 : B ≤ W3.heap.size := by rw [← HB.out]; exact hb.size
              have lz5 := z4.lt
              refine value_ (by rfl) rfl (exec_alloc9 rfl) ?_
              have hx := hx.alloc (.cells (arrN 9 fun _ => 0) 22)
              have hy := hy.alloc (.cells (arrN 9 fun _ => 0) 22)
              have z4 := z4.alloc (.cells (arrN 9 fun _ => 0) 22)
              have z5 := holdsN_new (W3) 22 9 (fun _ => 0)
              have hb := hb.alloc lb5 (.cells (arrN 9 fun _ => 0) 22)
              refine hK.out _ _ ⟨hx, hy⟩ (fun hHeld => ?_)
              clear hK K hHeld
              refine norm_ (a' := ?_) ?_ ?_
              rotate_left
              · show Act.put _ (some 9) _ = _
                simp only [Act.put, List.setIfInBounds_toArray, List.set_cons_zero, List.set_cons_succ]
                rfl
              generalize (W3).alloc (.cells (arrN 9 fun _ => 0) 22) = W4 at *
              generalize W3.heap.size = g4 at *
              refine one_ (i := 6) (N := none) #[true, true, true, true, true, true, true, false] rfl rfl (by kernel_rfl) (by decide) (fun K hK => ?_)
              refine skip_ (by rfl) rfl (exec_store9 (m := wholeM (xsOf a)) rfl rfl rfl z4 (arrN_size _ _)) ?_
              have m6 := holdsN_row (n := 9) z4 (wholeM (xsOf a))
              have hx := hx.setRowOther (g' := g3) (by omega) (arrN 9 (wholeM (xsOf a)))
              have hy := hy.setRowOther (g' := g3) (by omega) (arrN 9 (wholeM (xsOf a)))
              have z5 := z5.setRowOther (g' := g3) (by omega) (arrN 9 (wholeM (xsOf a)))
              have hb := below_setRow hb lb4 (arrN 9 (wholeM (xsOf a)))
              refine hK.out _ _ ⟨hx, hy⟩ (fun hHeld => ?_)
              clear hK K hHeld
              refine one_ (i := 7) (N := none) #[true, true, true, true, true, true, true, true] rfl rfl (by kernel_rfl) (by decide) (fun K hK => ?_)
              refine skip_ (by rfl) rfl (exec_store9 (m := wholeM (xsOf b)) rfl rfl rfl z5 (arrN_size _ _)) ?_
              have m7 := holdsN_row (n := 9) z5 (wholeM (xsOf b))
              have hx := hx.setRowOther (g' := g4) (by omega) (arrN 9 (wholeM (xsOf b)))
              have hy := hy.setRowOther (g' := g4) (by omega) (arrN 9 (wholeM (xsOf b)))
              have m6 := m6.setRowOther (g' := g4) (by omega) (arrN 9 (wholeM (xsOf b)))
              have hb := below_setRow hb lb5 (arrN 9 (wholeM (xsOf b)))
              refine hK.out _ _ ⟨hx, hy⟩ (fun hHeld => ?_)
              clear hK K hHeld
              refine done_ (by kernel_rfl) ?_
              refine hK0 _ _ ?_
              go_meet
              case rel => exact ⟨_, _, rfl, rfl, m6, m7, hb⟩
            · have lx5 := hx.lt
              have ly5 := hy.lt
              have lb5 : B ≤ W2.heap.size := by rw [← HB.out]; exact hb.size
              refine value_ (by rfl) rfl (exec_alloc9 rfl) ?_
              have hx := hx.alloc (.cells (arrN 9 fun _ => 0) 22)
              have hy := hy.alloc (.cells (arrN 9 fun _ => 0) 22)
              have z5 := holdsN_new (W2) 22 9 (fun _ => 0)
              have hb := hb.alloc lb5 (.cells (arrN 9 fun _ => 0) 22)
              refine hK.out _ _ ⟨hx, hy⟩ (fun hHeld => ?_)
              clear hK K hHeld
              refine norm_ (a' := ?_) ?_ ?_
              rotate_left
              · show Act.put _ (some 9) _ = _
                simp only [Act.put, List.setIfInBounds_toArray, List.set_cons_zero, List.set_cons_succ]
                rfl
              generalize (W2).alloc (.cells (arrN 9 fun _ => 0) 22) = W5 at *
              generalize W2.heap.size = g5 at *
              refine one_ (i := 4) (N := some 8) #[true, true, true, true, true, true, false, false] rfl rfl (by kernel_rfl) (by decide) (fun K hK => ?_)
              have lx4 := hx.lt
              have ly4 := hy.lt
              have lb4 : B ≤ W5.heap.size := by rw [← HB.out]; exact hb.size
              have lz4 := z5.lt
              refine value_ (by rfl) rfl (exec_alloc9 rfl) ?_
              have hx := hx.alloc (.cells (arrN 9 fun _ => 0) 22)
              have hy := hy.alloc (.cells (arrN 9 fun _ => 0) 22)
              have z5 := z5.alloc (.cells (arrN 9 fun _ => 0) 22)
              have z4 := holdsN_new (W5) 22 9 (fun _ => 0)
              have hb := hb.alloc lb4 (.cells (arrN 9 fun _ => 0) 22)
              refine hK.out _ _ ⟨hx, hy⟩ (fun hHeld => ?_)
              clear hK K hHeld
              refine norm_ (a' := ?_) ?_ ?_
              rotate_left
              · show Act.put _ (some 8) _ = _
                simp only [Act.put, List.setIfInBounds_toArray, List.set_cons_zero, List.set_cons_succ]
                rfl
              generalize (W5).alloc (.cells (arrN 9 fun _ => 0) 22) = W6 at *
              generalize W5.heap.size = g6 at *
              refine one_ (i := 6) (N := none) #[true, true, true, true, true, true, true, false] rfl rfl (by kernel_rfl) (by decide) (fun K hK => ?_)
              refine skip_ (by rfl) rfl (exec_store9 (m := wholeM (xsOf a)) rfl rfl rfl z4 (arrN_size _ _)) ?_
              have m6 := holdsN_row (n := 9) z4 (wholeM (xsOf a))
              have hx := hx.setRowOther (g' := g6) (by omega) (arrN 9 (wholeM (xsOf a)))
              have hy := hy.setRowOther (g' := g6) (by omega) (arrN 9 (wholeM (xsOf a)))
              have z5 := z5.setRowOther (g' := g6) (by omega) (arrN 9 (wholeM (xsOf a)))
              have hb := below_setRow hb lb4 (arrN 9 (wholeM (xsOf a)))
              refine hK.out _ _ ⟨hx, hy⟩ (fun hHeld => ?_)
              clear hK K hHeld
              refine one_ (i := 7) (N := none) #[true, true, true, true, true, true, true, true] rfl rfl (by kernel_rfl) (by decide) (fun K hK => ?_)
              refine skip_ (by rfl) rfl (exec_store9 (m := wholeM (xsOf b)) rfl rfl rfl z5 (arrN_size _ _)) ?_
              have m7 := holdsN_row (n := 9) z5 (wholeM (xsOf b))
              have hx := hx.setRowOther (g' := g5) (by omega) (arrN 9 (wholeM (xsOf b)))
              have hy := hy.setRowOther (g' := g5) (by omega) (arrN 9 (wholeM (xsOf b)))
              have m6 := m6.setRowOther (g' := g5) (by omega) (arrN 9 (wholeM (xsOf b)))
              have hb := below_setRow hb lb5 (arrN 9 (wholeM (xsOf b)))
              refine hK.out _ _ ⟨hx, hy⟩ (fun hHeld => ?_)
              clear hK K hHeld
              refine done_ (by kernel_rfl) ?_
              refine hK0 _ _ ?_
              go_meet
              case rel => exact ⟨_, _, rfl, rfl, m6, m7, hb⟩
          · have lx4 := hx.lt
            have ly4 := hy.lt
            have lb4 : B ≤ W1.heap.size := by rw [← HB.out]; exact hb.size
            refine value_ (by rfl) rfl (exec_alloc9 rfl) ?_
            have hx := hx.alloc (.cells (arrN 9 fun _ => 0) 22)
            have hy := hy.alloc (.cells (arrN 9 fun _ => 0) 22)
            have z4 := holdsN_new (W1) 22 9 (fun _ => 0)
            have hb := hb.alloc lb4 (.cells (arrN 9 fun _ => 0) 22)
            refine hK.out _ _ ⟨hx, hy⟩ (fun hHeld => ?_)
            clear hK K hHeld
            refine norm_ (a' := ?_) ?_ ?_
            rotate_left
            · show Act.put _ (some 8) _ = _
              simp only [Act.put, List.setIfInBounds_toArray, List.set_cons_zero, List.set_cons_succ]
              rfl
            generalize (W1).alloc (.cells (arrN 9 fun _ => 0) 22) = W7 at *
            generalize W1.heap.size = g7 at *
            refine two_ (i := 3) (j := 5) (Ni := some 33) (Nj := some 9) #[true, true, true, true, true, false, false, false] #[true, true, true, false, true, true, false, false] rfl rfl rfl rfl (by kernel_rfl) (by decide) (by decide) (fun K hK => ?_) (fun K hK => ?_)
            · refine goes_ Try.func25 (by kernel_rfl) rfl #[.agg (arrN 9 (xsOf b))] (by rfl) rfl rfl (by simp only [List.map_toArray, List.map_cons, List.map_nil]; rfl) ?_
              refine (whole_any (xsOf b) _ HWB.out).mono ?_
              rintro e W8 ⟨rfl, b1⟩
              refine ⟨_, rfl, ?_⟩
              have hb := hb.trans (b1.mono (by rw [← HB.out]; exact hb.size))
              have hx := hx.kept b1 hx.lt
              have hy := hy.kept b1 hy.lt
              have z4 := z4.kept b1 z4.lt
              refine hK.out _ _ ⟨hx, hy⟩ (fun hHeld => ?_)
              clear hK K b1 hHeld
              refine norm_ (a' := ?_) ?_ ?_
              rotate_left
              · show Act.put _ (some 33) _ = _
                simp only [Act.put, List.setIfInBounds_toArray, List.set_cons_zero, List.set_cons_succ]
                rfl
              refine one_ (i := 5) (N := some 9) #[true, true, true, true, true, true, false, false] rfl rfl (by kernel_rfl) (by decide) (fun K hK => ?_)
              have lx5 := hx.lt
              have ly5 := hy.lt
              have lb5 : B ≤ W8.heap.size := by rw [← HB.out]; exact hb.size
              have lz5 := z4.lt
              refine value_ (by rfl) rfl (exec_alloc9 rfl) ?_
              have hx := hx.alloc (.cells (arrN 9 fun _ => 0) 22)
              have hy := hy.alloc (.cells (arrN 9 fun _ => 0) 22)
              have z4 := z4.alloc (.cells (arrN 9 fun _ => 0) 22)
              have z5 := holdsN_new (W8) 22 9 (fun _ => 0)
              have hb := hb.alloc lb5 (.cells (arrN 9 fun _ => 0) 22)
              refine hK.out _ _ ⟨hx, hy⟩ (fun hHeld => ?_)
              clear hK K hHeld
              refine norm_ (a' := ?_) ?_ ?_
              rotate_left
              · show Act.put _ (some 9) _ = _
                simp only [Act.put, List.setIfInBounds_toArray, List.set_cons_zero, List.set_cons_succ]
                rfl
              generalize (W8).alloc (.cells (arrN 9 fun _ => 0) 22) = W9 at *
              generalize W8.heap.size = g9 at *
              refine one_ (i := 6) (N := none) #[true, true, true, true, true, true, true, false] rfl rfl (by kernel_rfl) (by decide) (fun K hK => ?_)
              refine skip_ (by rfl) rfl (exec_store9 (m := wholeM (xsOf a)) rfl rfl rfl z4 (arrN_size _ _)) ?_
              have m6 := holdsN_row (n := 9) z4 (wholeM (xsOf a))
              have hx := hx.setRowOther (g' := g7) (by omega) (arrN 9 (wholeM (xsOf a)))
              have hy := hy.setRowOther (g' := g7) (by omega) (arrN 9 (wholeM (xsOf a)))
              have z5 := z5.setRowOther (g' := g7) (by omega) (arrN 9 (wholeM (xsOf a)))
              have hb := below_setRow hb lb4 (arrN 9 (wholeM (xsOf a)))
              refine hK.out _ _ ⟨hx, hy⟩ (fun hHeld => ?_)
              clear hK K hHeld
              refine one_ (i := 7) (N := none) #[true, true, true, true, true, true, true, true] rfl rfl (by kernel_rfl) (by decide) (fun K hK => ?_)
              refine skip_ (by rfl) rfl (exec_store9 (m := wholeM (xsOf b)) rfl rfl rfl z5 (arrN_size _ _)) ?_
              have m7 := holdsN_row (n := 9) z5 (wholeM (xsOf b))
              have hx := hx.setRowOther (g' := g9) (by omega) (arrN 9 (wholeM (xsOf b)))
              have hy := hy.setRowOther (g' := g9) (by omega) (arrN 9 (wholeM (xsOf b)))
              have m6 := m6.setRowOther (g' := g9) (by omega) (arrN 9 (wholeM (xsOf b)))
              have hb := below_setRow hb lb5 (arrN 9 (wholeM (xsOf b)))
              refine hK.out _ _ ⟨hx, hy⟩ (fun hHeld => ?_)
              clear hK K hHeld
              refine done_ (by kernel_rfl) ?_
              refine hK0 _ _ ?_
              go_meet
              case rel => exact ⟨_, _, rfl, rfl, m6, m7, hb⟩
            · have lx5 := hx.lt
              have ly5 := hy.lt
              have lb5 : B ≤ W7.heap.size := by rw [← HB.out]; exact hb.size
              have lz5 := z4.lt
              refine value_ (by rfl) rfl (exec_alloc9 rfl) ?_
              have hx := hx.alloc (.cells (arrN 9 fun _ => 0) 22)
              have hy := hy.alloc (.cells (arrN 9 fun _ => 0) 22)
              have z4 := z4.alloc (.cells (arrN 9 fun _ => 0) 22)
              have z5 := holdsN_new (W7) 22 9 (fun _ => 0)
              have hb := hb.alloc lb5 (.cells (arrN 9 fun _ => 0) 22)
              refine hK.out _ _ ⟨hx, hy⟩ (fun hHeld => ?_)
              clear hK K hHeld
              refine norm_ (a' := ?_) ?_ ?_
              rotate_left
              · show Act.put _ (some 9) _ = _
                simp only [Act.put, List.setIfInBounds_toArray, List.set_cons_zero, List.set_cons_succ]
                rfl
              generalize (W7).alloc (.cells (arrN 9 fun _ => 0) 22) = W10 at *
              generalize W7.heap.size = g10 at *
              refine one_ (i := 3) (N := some 33) #[true, true, true, true, true, true, false, false] rfl rfl (by kernel_rfl) (by decide) (fun K hK => ?_)
              refine goes_ Try.func25 (by kernel_rfl) rfl #[.agg (arrN 9 (xsOf b))] (by rfl) rfl rfl (by simp only [List.map_toArray, List.map_cons, List.map_nil]; rfl) ?_
              refine (whole_any (xsOf b) _ HWB.out).mono ?_
              rintro e W11 ⟨rfl, b1⟩
              refine ⟨_, rfl, ?_⟩
              have hb := hb.trans (b1.mono (by rw [← HB.out]; exact hb.size))
              have hx := hx.kept b1 hx.lt
              have hy := hy.kept b1 hy.lt
              have z4 := z4.kept b1 z4.lt
              have z5 := z5.kept b1 z5.lt
              refine hK.out _ _ ⟨hx, hy⟩ (fun hHeld => ?_)
              clear hK K b1 hHeld
              refine norm_ (a' := ?_) ?_ ?_
              rotate_left
              · show Act.put _ (some 33) _ = _
                simp only [Act.put, List.setIfInBounds_toArray, List.set_cons_zero, List.set_cons_succ]
                rfl
              refine one_ (i := 6) (N := none) #[true, true, true, true, true, true, true, false] rfl rfl (by kernel_rfl) (by decide) (fun K hK => ?_)
              refine skip_ (by rfl) rfl (exec_store9 (m := wholeM (xsOf a)) rfl rfl rfl z4 (arrN_size _ _)) ?_
              have m6 := holdsN_row (n := 9) z4 (wholeM (xsOf a))
              have hx := hx.setRowOther (g' := g7) (by omega) (arrN 9 (wholeM (xsOf a)))
              have hy := hy.setRowOther (g' := g7) (by omega) (arrN 9 (wholeM (xsOf a)))
              have z5 := z5.setRowOther (g' := g7) (by omega) (arrN 9 (wholeM (xsOf a)))
              have hb := below_setRow hb lb4 (arrN 9 (wholeM (xsOf a)))
              refine hK.out _ _ ⟨hx, hy⟩ (fun hHeld => ?_)
              clear hK K hHeld
              refine one_ (i := 7) (N := none) #[true, true, true, true, true, true, true, true] rfl rfl (by kernel_rfl) (by decide) (fun K hK => ?_)
              refine skip_ (by rfl) rfl (exec_store9 (m := wholeM (xsOf b)) rfl rfl rfl z5 (arrN_size _ _)) ?_
              have m7 := holdsN_row (n := 9) z5 (wholeM (xsOf b))
              have hx := hx.setRowOther (g' := g10) (by omega) (arrN 9 (wholeM (xsOf b)))
              have hy := hy.setRowOther (g' := g10) (by omega) (arrN 9 (wholeM (xsOf b)))
              have m6 := m6.setRowOther (g' := g10) (by omega) (arrN 9 (wholeM (xsOf b)))
              have hb := below_setRow hb lb5 (arrN 9 (wholeM (xsOf b)))
              refine hK.out _ _ ⟨hx, hy⟩ (fun hHeld => ?_)
              clear hK K hHeld
              refine done_ (by kernel_rfl) ?_
              refine hK0 _ _ ?_
              go_meet
              case rel => exact ⟨_, _, rfl, rfl, m6, m7, hb⟩
          · have lx5 := hx.lt
            have ly5 := hy.lt
            have lb5 : B ≤ W1.heap.size := by rw [← HB.out]; exact hb.size
            refine value_ (by rfl) rfl (exec_alloc9 rfl) ?_
            have hx := hx.alloc (.cells (arrN 9 fun _ => 0) 22)
            have hy := hy.alloc (.cells (arrN 9 fun _ => 0) 22)
            have z5 := holdsN_new (W1) 22 9 (fun _ => 0)
            have hb := hb.alloc lb5 (.cells (arrN 9 fun _ => 0) 22)
            refine hK.out _ _ ⟨hx, hy⟩ (fun hHeld => ?_)
            clear hK K hHeld
            refine norm_ (a' := ?_) ?_ ?_
            rotate_left
            · show Act.put _ (some 9) _ = _
              simp only [Act.put, List.setIfInBounds_toArray, List.set_cons_zero, List.set_cons_succ]
              rfl
            generalize (W1).alloc (.cells (arrN 9 fun _ => 0) 22) = W12 at *
            generalize W1.heap.size = g12 at *
            refine two_ (i := 3) (j := 4) (Ni := some 33) (Nj := some 8) #[true, true, true, true, false, true, false, false] #[true, true, true, false, true, true, false, false] rfl rfl rfl rfl (by kernel_rfl) (by decide) (by decide) (fun K hK => ?_) (fun K hK => ?_)
            · refine goes_ Try.func25 (by kernel_rfl) rfl #[.agg (arrN 9 (xsOf b))] (by rfl) rfl rfl (by simp only [List.map_toArray, List.map_cons, List.map_nil]; rfl) ?_
              refine (whole_any (xsOf b) _ HWB.out).mono ?_
              rintro e W13 ⟨rfl, b1⟩
              refine ⟨_, rfl, ?_⟩
              have hb := hb.trans (b1.mono (by rw [← HB.out]; exact hb.size))
              have hx := hx.kept b1 hx.lt
              have hy := hy.kept b1 hy.lt
              have z5 := z5.kept b1 z5.lt
              refine hK.out _ _ ⟨hx, hy⟩ (fun hHeld => ?_)
              clear hK K b1 hHeld
              refine norm_ (a' := ?_) ?_ ?_
              rotate_left
              · show Act.put _ (some 33) _ = _
                simp only [Act.put, List.setIfInBounds_toArray, List.set_cons_zero, List.set_cons_succ]
                rfl
              refine one_ (i := 4) (N := some 8) #[true, true, true, true, true, true, false, false] rfl rfl (by kernel_rfl) (by decide) (fun K hK => ?_)
              have lx4 := hx.lt
              have ly4 := hy.lt
              have lb4 : B ≤ W13.heap.size := by rw [← HB.out]; exact hb.size
              have lz4 := z5.lt
              refine value_ (by rfl) rfl (exec_alloc9 rfl) ?_
              have hx := hx.alloc (.cells (arrN 9 fun _ => 0) 22)
              have hy := hy.alloc (.cells (arrN 9 fun _ => 0) 22)
              have z5 := z5.alloc (.cells (arrN 9 fun _ => 0) 22)
              have z4 := holdsN_new (W13) 22 9 (fun _ => 0)
              have hb := hb.alloc lb4 (.cells (arrN 9 fun _ => 0) 22)
              refine hK.out _ _ ⟨hx, hy⟩ (fun hHeld => ?_)
              clear hK K hHeld
              refine norm_ (a' := ?_) ?_ ?_
              rotate_left
              · show Act.put _ (some 8) _ = _
                simp only [Act.put, List.setIfInBounds_toArray, List.set_cons_zero, List.set_cons_succ]
                rfl
              generalize (W13).alloc (.cells (arrN 9 fun _ => 0) 22) = W14 at *
              generalize W13.heap.size = g14 at *
              refine one_ (i := 6) (N := none) #[true, true, true, true, true, true, true, false] rfl rfl (by kernel_rfl) (by decide) (fun K hK => ?_)
              refine skip_ (by rfl) rfl (exec_store9 (m := wholeM (xsOf a)) rfl rfl rfl z4 (arrN_size _ _)) ?_
              have m6 := holdsN_row (n := 9) z4 (wholeM (xsOf a))
              have hx := hx.setRowOther (g' := g14) (by omega) (arrN 9 (wholeM (xsOf a)))
              have hy := hy.setRowOther (g' := g14) (by omega) (arrN 9 (wholeM (xsOf a)))
              have z5 := z5.setRowOther (g' := g14) (by omega) (arrN 9 (wholeM (xsOf a)))
              have hb := below_setRow hb lb4 (arrN 9 (wholeM (xsOf a)))
              refine hK.out _ _ ⟨hx, hy⟩ (fun hHeld => ?_)
              clear hK K hHeld
              refine one_ (i := 7) (N := none) #[true, true, true, true, true, true, true, true] rfl rfl (by kernel_rfl) (by decide) (fun K hK => ?_)
              refine skip_ (by rfl) rfl (exec_store9 (m := wholeM (xsOf b)) rfl rfl rfl z5 (arrN_size _ _)) ?_
              have m7 := holdsN_row (n := 9) z5 (wholeM (xsOf b))
              have hx := hx.setRowOther (g' := g12) (by omega) (arrN 9 (wholeM (xsOf b)))
              have hy := hy.setRowOther (g' := g12) (by omega) (arrN 9 (wholeM (xsOf b)))
              have m6 := m6.setRowOther (g' := g12) (by omega) (arrN 9 (wholeM (xsOf b)))
              have hb := below_setRow hb lb5 (arrN 9 (wholeM (xsOf b)))
              refine hK.out _ _ ⟨hx, hy⟩ (fun hHeld => ?_)
              clear hK K hHeld
              refine done_ (by kernel_rfl) ?_
              refine hK0 _ _ ?_
              go_meet
              case rel => exact ⟨_, _, rfl, rfl, m6, m7, hb⟩
            · have lx4 := hx.lt
              have ly4 := hy.lt
              have lb4 : B ≤ W12.heap.size := by rw [← HB.out]; exact hb.size
              have lz4 := z5.lt
              refine value_ (by rfl) rfl (exec_alloc9 rfl) ?_
              have hx := hx.alloc (.cells (arrN 9 fun _ => 0) 22)
              have hy := hy.alloc (.cells (arrN 9 fun _ => 0) 22)
              have z5 := z5.alloc (.cells (arrN 9 fun _ => 0) 22)
              have z4 := holdsN_new (W12) 22 9 (fun _ => 0)
              have hb := hb.alloc lb4 (.cells (arrN 9 fun _ => 0) 22)
              refine hK.out _ _ ⟨hx, hy⟩ (fun hHeld => ?_)
              clear hK K hHeld
              refine norm_ (a' := ?_) ?_ ?_
              rotate_left
              · show Act.put _ (some 8) _ = _
                simp only [Act.put, List.setIfInBounds_toArray, List.set_cons_zero, List.set_cons_succ]
                rfl
              generalize (W12).alloc (.cells (arrN 9 fun _ => 0) 22) = W15 at *
              generalize W12.heap.size = g15 at *
              refine one_ (i := 3) (N := some 33) #[true, true, true, true, true, true, false, false] rfl rfl (by kernel_rfl) (by decide) (fun K hK => ?_)
              refine goes_ Try.func25 (by kernel_rfl) rfl #[.agg (arrN 9 (xsOf b))] (by rfl) rfl rfl (by simp only [List.map_toArray, List.map_cons, List.map_nil]; rfl) ?_
              refine (whole_any (xsOf b) _ HWB.out).mono ?_
              rintro e W16 ⟨rfl, b1⟩
              refine ⟨_, rfl, ?_⟩
              have hb := hb.trans (b1.mono (by rw [← HB.out]; exact hb.size))
              have hx := hx.kept b1 hx.lt
              have hy := hy.kept b1 hy.lt
              have z5 := z5.kept b1 z5.lt
              have z4 := z4.kept b1 z4.lt
              refine hK.out _ _ ⟨hx, hy⟩ (fun hHeld => ?_)
              clear hK K b1 hHeld
              refine norm_ (a' := ?_) ?_ ?_
              rotate_left
              · show Act.put _ (some 33) _ = _
                simp only [Act.put, List.setIfInBounds_toArray, List.set_cons_zero, List.set_cons_succ]
                rfl
              refine one_ (i := 6) (N := none) #[true, true, true, true, true, true, true, false] rfl rfl (by kernel_rfl) (by decide) (fun K hK => ?_)
              refine skip_ (by rfl) rfl (exec_store9 (m := wholeM (xsOf a)) rfl rfl rfl z4 (arrN_size _ _)) ?_
              have m6 := holdsN_row (n := 9) z4 (wholeM (xsOf a))
              have hx := hx.setRowOther (g' := g15) (by omega) (arrN 9 (wholeM (xsOf a)))
              have hy := hy.setRowOther (g' := g15) (by omega) (arrN 9 (wholeM (xsOf a)))
              have z5 := z5.setRowOther (g' := g15) (by omega) (arrN 9 (wholeM (xsOf a)))
              have hb := below_setRow hb lb4 (arrN 9 (wholeM (xsOf a)))
              refine hK.out _ _ ⟨hx, hy⟩ (fun hHeld => ?_)
              clear hK K hHeld
              refine one_ (i := 7) (N := none) #[true, true, true, true, true, true, true, true] rfl rfl (by kernel_rfl) (by decide) (fun K hK => ?_)
              refine skip_ (by rfl) rfl (exec_store9 (m := wholeM (xsOf b)) rfl rfl rfl z5 (arrN_size _ _)) ?_
              have m7 := holdsN_row (n := 9) z5 (wholeM (xsOf b))
              have hx := hx.setRowOther (g' := g12) (by omega) (arrN 9 (wholeM (xsOf b)))
              have hy := hy.setRowOther (g' := g12) (by omega) (arrN 9 (wholeM (xsOf b)))
              have m6 := m6.setRowOther (g' := g12) (by omega) (arrN 9 (wholeM (xsOf b)))
              have hb := below_setRow hb lb5 (arrN 9 (wholeM (xsOf b)))
              refine hK.out _ _ ⟨hx, hy⟩ (fun hHeld => ?_)
              clear hK K hHeld
              refine done_ (by kernel_rfl) ?_
              refine hK0 _ _ ?_
              go_meet
              case rel => exact ⟨_, _, rfl, rfl, m6, m7, hb⟩
        · have lx4 := hx.lt
          have ly4 := hy.lt
          have lb4 : B ≤ W.heap.size := by rw [← HB.out]; exact hb.size
          refine value_ (by rfl) rfl (exec_alloc9 rfl) ?_
          have hx := hx.alloc (.cells (arrN 9 fun _ => 0) 22)
          have hy := hy.alloc (.cells (arrN 9 fun _ => 0) 22)
          have z4 := holdsN_new (W) 22 9 (fun _ => 0)
          have hb := hb.alloc lb4 (.cells (arrN 9 fun _ => 0) 22)
          refine hK.out _ _ ⟨hx, hy⟩ (fun hHeld => ?_)
          clear hK K hHeld
          refine norm_ (a' := ?_) ?_ ?_
          rotate_left
          · show Act.put _ (some 8) _ = _
            simp only [Act.put, List.setIfInBounds_toArray, List.set_cons_zero, List.set_cons_succ]
            rfl
          generalize (W).alloc (.cells (arrN 9 fun _ => 0) 22) = W17 at *
          generalize W.heap.size = g17 at *
          refine two_ (i := 1) (j := 5) (Ni := some 31) (Nj := some 9) #[true, true, true, false, true, false, false, false] #[true, false, true, false, true, true, false, false] rfl rfl rfl rfl (by kernel_rfl) (by decide) (by decide) (fun K hK => ?_) (fun K hK => ?_)
          · refine goes_ Try.func25 (by kernel_rfl) rfl #[.agg (arrN 9 (xsOf a))] (by rfl) rfl rfl (by simp only [List.map_toArray, List.map_cons, List.map_nil]; rfl) ?_
            refine (whole_any (xsOf a) _ HWA.out).mono ?_
            rintro e W18 ⟨rfl, b1⟩
            refine ⟨_, rfl, ?_⟩
            have hb := hb.trans (b1.mono (by rw [← HB.out]; exact hb.size))
            have hx := hx.kept b1 hx.lt
            have hy := hy.kept b1 hy.lt
            have z4 := z4.kept b1 z4.lt
            refine hK.out _ _ ⟨hx, hy⟩ (fun hHeld => ?_)
            clear hK K b1 hHeld
            refine norm_ (a' := ?_) ?_ ?_
            rotate_left
            · show Act.put _ (some 31) _ = _
              simp only [Act.put, List.setIfInBounds_toArray, List.set_cons_zero, List.set_cons_succ]
              rfl
            refine two_ (i := 3) (j := 5) (Ni := some 33) (Nj := some 9) #[true, true, true, true, true, false, false, false] #[true, true, true, false, true, true, false, false] rfl rfl rfl rfl (by kernel_rfl) (by decide) (by decide) (fun K hK => ?_) (fun K hK => ?_)
            · refine goes_ Try.func25 (by kernel_rfl) rfl #[.agg (arrN 9 (xsOf b))] (by rfl) rfl rfl (by simp only [List.map_toArray, List.map_cons, List.map_nil]; rfl) ?_
              refine (whole_any (xsOf b) _ HWB.out).mono ?_
              rintro e W19 ⟨rfl, b1⟩
              refine ⟨_, rfl, ?_⟩
              have hb := hb.trans (b1.mono (by rw [← HB.out]; exact hb.size))
              have hx := hx.kept b1 hx.lt
              have hy := hy.kept b1 hy.lt
              have z4 := z4.kept b1 z4.lt
              refine hK.out _ _ ⟨hx, hy⟩ (fun hHeld => ?_)
              clear hK K b1 hHeld
              refine norm_ (a' := ?_) ?_ ?_
              rotate_left
              · show Act.put _ (some 33) _ = _
                simp only [Act.put, List.setIfInBounds_toArray, List.set_cons_zero, List.set_cons_succ]
                rfl
              refine one_ (i := 5) (N := some 9) #[true, true, true, true, true, true, false, false] rfl rfl (by kernel_rfl) (by decide) (fun K hK => ?_)
              have lx5 := hx.lt
              have ly5 := hy.lt
              have lb5 : B ≤ W19.heap.size := by rw [← HB.out]; exact hb.size
              have lz5 := z4.lt
              refine value_ (by rfl) rfl (exec_alloc9 rfl) ?_
              have hx := hx.alloc (.cells (arrN 9 fun _ => 0) 22)
              have hy := hy.alloc (.cells (arrN 9 fun _ => 0) 22)
              have z4 := z4.alloc (.cells (arrN 9 fun _ => 0) 22)
              have z5 := holdsN_new (W19) 22 9 (fun _ => 0)
              have hb := hb.alloc lb5 (.cells (arrN 9 fun _ => 0) 22)
              refine hK.out _ _ ⟨hx, hy⟩ (fun hHeld => ?_)
              clear hK K hHeld
              refine norm_ (a' := ?_) ?_ ?_
              rotate_left
              · show Act.put _ (some 9) _ = _
                simp only [Act.put, List.setIfInBounds_toArray, List.set_cons_zero, List.set_cons_succ]
                rfl
              generalize (W19).alloc (.cells (arrN 9 fun _ => 0) 22) = W20 at *
              generalize W19.heap.size = g20 at *
              refine one_ (i := 6) (N := none) #[true, true, true, true, true, true, true, false] rfl rfl (by kernel_rfl) (by decide) (fun K hK => ?_)
              refine skip_ (by rfl) rfl (exec_store9 (m := wholeM (xsOf a)) rfl rfl rfl z4 (arrN_size _ _)) ?_
              have m6 := holdsN_row (n := 9) z4 (wholeM (xsOf a))
              have hx := hx.setRowOther (g' := g17) (by omega) (arrN 9 (wholeM (xsOf a)))
              have hy := hy.setRowOther (g' := g17) (by omega) (arrN 9 (wholeM (xsOf a)))
              have z5 := z5.setRowOther (g' := g17) (by omega) (arrN 9 (wholeM (xsOf a)))
              have hb := below_setRow hb lb4 (arrN 9 (wholeM (xsOf a)))
              refine hK.out _ _ ⟨hx, hy⟩ (fun hHeld => ?_)
              clear hK K hHeld
              refine one_ (i := 7) (N := none) #[true, true, true, true, true, true, true, true] rfl rfl (by kernel_rfl) (by decide) (fun K hK => ?_)
              refine skip_ (by rfl) rfl (exec_store9 (m := wholeM (xsOf b)) rfl rfl rfl z5 (arrN_size _ _)) ?_
              have m7 := holdsN_row (n := 9) z5 (wholeM (xsOf b))
              have hx := hx.setRowOther (g' := g20) (by omega) (arrN 9 (wholeM (xsOf b)))
              have hy := hy.setRowOther (g' := g20) (by omega) (arrN 9 (wholeM (xsOf b)))
              have m6 := m6.setRowOther (g' := g20) (by omega) (arrN 9 (wholeM (xsOf b)))
              have hb := below_setRow hb lb5 (arrN 9 (wholeM (xsOf b)))
              refine hK.out _ _ ⟨hx, hy⟩ (fun hHeld => ?_)
              clear hK K hHeld
              refine done_ (by kernel_rfl) ?_
              refine hK0 _ _ ?_
              go_meet
              case rel => exact ⟨_, _, rfl, rfl, m6, m7, hb⟩
            · have lx5 := hx.lt
              have ly5 := hy.lt
              have lb5 : B ≤ W18.heap.size := by rw [← HB.out]; exact hb.size
              have lz5 := z4.lt
              refine value_ (by rfl) rfl (exec_alloc9 rfl) ?_
              have hx := hx.alloc (.cells (arrN 9 fun _ => 0) 22)
              have hy := hy.alloc (.cells (arrN 9 fun _ => 0) 22)
              have z4 := z4.alloc (.cells (arrN 9 fun _ => 0) 22)
              have z5 := holdsN_new (W18) 22 9 (fun _ => 0)
              have hb := hb.alloc lb5 (.cells (arrN 9 fun _ => 0) 22)
              refine hK.out _ _ ⟨hx, hy⟩ (fun hHeld => ?_)
              clear hK K hHeld
              refine norm_ (a' := ?_) ?_ ?_
              rotate_left
              · show Act.put _ (some 9) _ = _
                simp only [Act.put, List.setIfInBounds_toArray, List.set_cons_zero, List.set_cons_succ]
                rfl
              generalize (W18).alloc (.cells (arrN 9 fun _ => 0) 22) = W21 at *
              generalize W18.heap.size = g21 at *
              refine one_ (i := 3) (N := some 33) #[true, true, true, true, true, true, false, false] rfl rfl (by kernel_rfl) (by decide) (fun K hK => ?_)
              refine goes_ Try.func25 (by kernel_rfl) rfl #[.agg (arrN 9 (xsOf b))] (by rfl) rfl rfl (by simp only [List.map_toArray, List.map_cons, List.map_nil]; rfl) ?_
              refine (whole_any (xsOf b) _ HWB.out).mono ?_
              rintro e W22 ⟨rfl, b1⟩
              refine ⟨_, rfl, ?_⟩
              have hb := hb.trans (b1.mono (by rw [← HB.out]; exact hb.size))
              have hx := hx.kept b1 hx.lt
              have hy := hy.kept b1 hy.lt
              have z4 := z4.kept b1 z4.lt
              have z5 := z5.kept b1 z5.lt
              refine hK.out _ _ ⟨hx, hy⟩ (fun hHeld => ?_)
              clear hK K b1 hHeld
              refine norm_ (a' := ?_) ?_ ?_
              rotate_left
              · show Act.put _ (some 33) _ = _
                simp only [Act.put, List.setIfInBounds_toArray, List.set_cons_zero, List.set_cons_succ]
                rfl
              refine one_ (i := 6) (N := none) #[true, true, true, true, true, true, true, false] rfl rfl (by kernel_rfl) (by decide) (fun K hK => ?_)
              refine skip_ (by rfl) rfl (exec_store9 (m := wholeM (xsOf a)) rfl rfl rfl z4 (arrN_size _ _)) ?_
              have m6 := holdsN_row (n := 9) z4 (wholeM (xsOf a))
              have hx := hx.setRowOther (g' := g17) (by omega) (arrN 9 (wholeM (xsOf a)))
              have hy := hy.setRowOther (g' := g17) (by omega) (arrN 9 (wholeM (xsOf a)))
              have z5 := z5.setRowOther (g' := g17) (by omega) (arrN 9 (wholeM (xsOf a)))
              have hb := below_setRow hb lb4 (arrN 9 (wholeM (xsOf a)))
              refine hK.out _ _ ⟨hx, hy⟩ (fun hHeld => ?_)
              clear hK K hHeld
              refine one_ (i := 7) (N := none) #[true, true, true, true, true, true, true, true] rfl rfl (by kernel_rfl) (by decide) (fun K hK => ?_)
              refine skip_ (by rfl) rfl (exec_store9 (m := wholeM (xsOf b)) rfl rfl rfl z5 (arrN_size _ _)) ?_
              have m7 := holdsN_row (n := 9) z5 (wholeM (xsOf b))
              have hx := hx.setRowOther (g' := g21) (by omega) (arrN 9 (wholeM (xsOf b)))
              have hy := hy.setRowOther (g' := g21) (by omega) (arrN 9 (wholeM (xsOf b)))
              have m6 := m6.setRowOther (g' := g21) (by omega) (arrN 9 (wholeM (xsOf b)))
              have hb := below_setRow hb lb5 (arrN 9 (wholeM (xsOf b)))
              refine hK.out _ _ ⟨hx, hy⟩ (fun hHeld => ?_)
              clear hK K hHeld
              refine done_ (by kernel_rfl) ?_
              refine hK0 _ _ ?_
              go_meet
              case rel => exact ⟨_, _, rfl, rfl, m6, m7, hb⟩
          · have lx5 := hx.lt
            have ly5 := hy.lt
            have lb5 : B ≤ W17.heap.size := by rw [← HB.out]; exact hb.size
            have lz5 := z4.lt
            refine value_ (by rfl) rfl (exec_alloc9 rfl) ?_
            have hx := hx.alloc (.cells (arrN 9 fun _ => 0) 22)
            have hy := hy.alloc (.cells (arrN 9 fun _ => 0) 22)
            have z4 := z4.alloc (.cells (arrN 9 fun _ => 0) 22)
            have z5 := holdsN_new (W17) 22 9 (fun _ => 0)
            have hb := hb.alloc lb5 (.cells (arrN 9 fun _ => 0) 22)
            refine hK.out _ _ ⟨hx, hy⟩ (fun hHeld => ?_)
            clear hK K hHeld
            refine norm_ (a' := ?_) ?_ ?_
            rotate_left
            · show Act.put _ (some 9) _ = _
              simp only [Act.put, List.setIfInBounds_toArray, List.set_cons_zero, List.set_cons_succ]
              rfl
            generalize (W17).alloc (.cells (arrN 9 fun _ => 0) 22) = W23 at *
            generalize W17.heap.size = g23 at *
            refine one_ (i := 1) (N := some 31) #[true, true, true, false, true, true, false, false] rfl rfl (by kernel_rfl) (by decide) (fun K hK => ?_)
            refine goes_ Try.func25 (by kernel_rfl) rfl #[.agg (arrN 9 (xsOf a))] (by rfl) rfl rfl (by simp only [List.map_toArray, List.map_cons, List.map_nil]; rfl) ?_
            refine (whole_any (xsOf a) _ HWA.out).mono ?_
            rintro e W24 ⟨rfl, b1⟩
            refine ⟨_, rfl, ?_⟩
            have hb := hb.trans (b1.mono (by rw [← HB.out]; exact hb.size))
            have hx := hx.kept b1 hx.lt
            have hy := hy.kept b1 hy.lt
            have z4 := z4.kept b1 z4.lt
            have z5 := z5.kept b1 z5.lt
            refine hK.out _ _ ⟨hx, hy⟩ (fun hHeld => ?_)
            clear hK K b1 hHeld
            refine norm_ (a' := ?_) ?_ ?_
            rotate_left
            · show Act.put _ (some 31) _ = _
              simp only [Act.put, List.setIfInBounds_toArray, List.set_cons_zero, List.set_cons_succ]
              rfl
            refine one_ (i := 3) (N := some 33) #[true, true, true, true, true, true, false, false] rfl rfl (by kernel_rfl) (by decide) (fun K hK => ?_)
            refine goes_ Try.func25 (by kernel_rfl) rfl #[.agg (arrN 9 (xsOf b))] (by rfl) rfl rfl (by simp only [List.map_toArray, List.map_cons, List.map_nil]; rfl) ?_
            refine (whole_any (xsOf b) _ HWB.out).mono ?_
            rintro e W25 ⟨rfl, b1⟩
            refine ⟨_, rfl, ?_⟩
            have hb := hb.trans (b1.mono (by rw [← HB.out]; exact hb.size))
            have hx := hx.kept b1 hx.lt
            have hy := hy.kept b1 hy.lt
            have z4 := z4.kept b1 z4.lt
            have z5 := z5.kept b1 z5.lt
            refine hK.out _ _ ⟨hx, hy⟩ (fun hHeld => ?_)
            clear hK K b1 hHeld
            refine norm_ (a' := ?_) ?_ ?_
            rotate_left
            · show Act.put _ (some 33) _ = _
              simp only [Act.put, List.setIfInBounds_toArray, List.set_cons_zero, List.set_cons_succ]
              rfl
            refine one_ (i := 6) (N := none) #[true, true, true, true, true, true, true, false] rfl rfl (by kernel_rfl) (by decide) (fun K hK => ?_)
            refine skip_ (by rfl) rfl (exec_store9 (m := wholeM (xsOf a)) rfl rfl rfl z4 (arrN_size _ _)) ?_
            have m6 := holdsN_row (n := 9) z4 (wholeM (xsOf a))
            have hx := hx.setRowOther (g' := g17) (by omega) (arrN 9 (wholeM (xsOf a)))
            have hy := hy.setRowOther (g' := g17) (by omega) (arrN 9 (wholeM (xsOf a)))
            have z5 := z5.setRowOther (g' := g17) (by omega) (arrN 9 (wholeM (xsOf a)))
            have hb := below_setRow hb lb4 (arrN 9 (wholeM (xsOf a)))
            refine hK.out _ _ ⟨hx, hy⟩ (fun hHeld => ?_)
            clear hK K hHeld
            refine one_ (i := 7) (N := none) #[true, true, true, true, true, true, true, true] rfl rfl (by kernel_rfl) (by decide) (fun K hK => ?_)
            refine skip_ (by rfl) rfl (exec_store9 (m := wholeM (xsOf b)) rfl rfl rfl z5 (arrN_size _ _)) ?_
            have m7 := holdsN_row (n := 9) z5 (wholeM (xsOf b))
            have hx := hx.setRowOther (g' := g23) (by omega) (arrN 9 (wholeM (xsOf b)))
            have hy := hy.setRowOther (g' := g23) (by omega) (arrN 9 (wholeM (xsOf b)))
            have m6 := m6.setRowOther (g' := g23) (by omega) (arrN 9 (wholeM (xsOf b)))
            have hb := below_setRow hb lb5 (arrN 9 (wholeM (xsOf b)))
            refine hK.out _ _ ⟨hx, hy⟩ (fun hHeld => ?_)
            clear hK K hHeld
            refine done_ (by kernel_rfl) ?_
            refine hK0 _ _ ?_
            go_meet
            case rel => exact ⟨_, _, rfl, rfl, m6, m7, hb⟩
        · have lx5 := hx.lt
          have ly5 := hy.lt
          have lb5 : B ≤ W.heap.size := by rw [← HB.out]; exact hb.size
          refine value_ (by rfl) rfl (exec_alloc9 rfl) ?_
          have hx := hx.alloc (.cells (arrN 9 fun _ => 0) 22)
          have hy := hy.alloc (.cells (arrN 9 fun _ => 0) 22)
          have z5 := holdsN_new (W) 22 9 (fun _ => 0)
          have hb := hb.alloc lb5 (.cells (arrN 9 fun _ => 0) 22)
          refine hK.out _ _ ⟨hx, hy⟩ (fun hHeld => ?_)
          clear hK K hHeld
          refine norm_ (a' := ?_) ?_ ?_
          rotate_left
          · show Act.put _ (some 9) _ = _
            simp only [Act.put, List.setIfInBounds_toArray, List.set_cons_zero, List.set_cons_succ]
            rfl
          generalize (W).alloc (.cells (arrN 9 fun _ => 0) 22) = W26 at *
          generalize W.heap.size = g26 at *
          refine two_ (i := 1) (j := 4) (Ni := some 31) (Nj := some 8) #[true, true, true, false, false, true, false, false] #[true, false, true, false, true, true, false, false] rfl rfl rfl rfl (by kernel_rfl) (by decide) (by decide) (fun K hK => ?_) (fun K hK => ?_)
          · refine goes_ Try.func25 (by kernel_rfl) rfl #[.agg (arrN 9 (xsOf a))] (by rfl) rfl rfl (by simp only [List.map_toArray, List.map_cons, List.map_nil]; rfl) ?_
            refine (whole_any (xsOf a) _ HWA.out).mono ?_
            rintro e W27 ⟨rfl, b1⟩
            refine ⟨_, rfl, ?_⟩
            have hb := hb.trans (b1.mono (by rw [← HB.out]; exact hb.size))
            have hx := hx.kept b1 hx.lt
            have hy := hy.kept b1 hy.lt
            have z5 := z5.kept b1 z5.lt
            refine hK.out _ _ ⟨hx, hy⟩ (fun hHeld => ?_)
            clear hK K b1 hHeld
            refine norm_ (a' := ?_) ?_ ?_
            rotate_left
            · show Act.put _ (some 31) _ = _
              simp only [Act.put, List.setIfInBounds_toArray, List.set_cons_zero, List.set_cons_succ]
              rfl
            refine two_ (i := 3) (j := 4) (Ni := some 33) (Nj := some 8) #[true, true, true, true, false, true, false, false] #[true, true, true, false, true, true, false, false] rfl rfl rfl rfl (by kernel_rfl) (by decide) (by decide) (fun K hK => ?_) (fun K hK => ?_)
            · refine goes_ Try.func25 (by kernel_rfl) rfl #[.agg (arrN 9 (xsOf b))] (by rfl) rfl rfl (by simp only [List.map_toArray, List.map_cons, List.map_nil]; rfl) ?_
              refine (whole_any (xsOf b) _ HWB.out).mono ?_
              rintro e W28 ⟨rfl, b1⟩
              refine ⟨_, rfl, ?_⟩
              have hb := hb.trans (b1.mono (by rw [← HB.out]; exact hb.size))
              have hx := hx.kept b1 hx.lt
              have hy := hy.kept b1 hy.lt
              have z5 := z5.kept b1 z5.lt
              refine hK.out _ _ ⟨hx, hy⟩ (fun hHeld => ?_)
              clear hK K b1 hHeld
              refine norm_ (a' := ?_) ?_ ?_
              rotate_left
              · show Act.put _ (some 33) _ = _
                simp only [Act.put, List.setIfInBounds_toArray, List.set_cons_zero, List.set_cons_succ]
                rfl
              refine one_ (i := 4) (N := some 8) #[true, true, true, true, true, true, false, false] rfl rfl (by kernel_rfl) (by decide) (fun K hK => ?_)
              have lx4 := hx.lt
              have ly4 := hy.lt
              have lb4 : B ≤ W28.heap.size := by rw [← HB.out]; exact hb.size
              have lz4 := z5.lt
              refine value_ (by rfl) rfl (exec_alloc9 rfl) ?_
              have hx := hx.alloc (.cells (arrN 9 fun _ => 0) 22)
              have hy := hy.alloc (.cells (arrN 9 fun _ => 0) 22)
              have z5 := z5.alloc (.cells (arrN 9 fun _ => 0) 22)
              have z4 := holdsN_new (W28) 22 9 (fun _ => 0)
              have hb := hb.alloc lb4 (.cells (arrN 9 fun _ => 0) 22)
              refine hK.out _ _ ⟨hx, hy⟩ (fun hHeld => ?_)
              clear hK K hHeld
              refine norm_ (a' := ?_) ?_ ?_
              rotate_left
              · show Act.put _ (some 8) _ = _
                simp only [Act.put, List.setIfInBounds_toArray, List.set_cons_zero, List.set_cons_succ]
                rfl
              generalize (W28).alloc (.cells (arrN 9 fun _ => 0) 22) = W29 at *
              generalize W28.heap.size = g29 at *
              refine one_ (i := 6) (N := none) #[true, true, true, true, true, true, true, false] rfl rfl (by kernel_rfl) (by decide) (fun K hK => ?_)
              refine skip_ (by rfl) rfl (exec_store9 (m := wholeM (xsOf a)) rfl rfl rfl z4 (arrN_size _ _)) ?_
              have m6 := holdsN_row (n := 9) z4 (wholeM (xsOf a))
              have hx := hx.setRowOther (g' := g29) (by omega) (arrN 9 (wholeM (xsOf a)))
              have hy := hy.setRowOther (g' := g29) (by omega) (arrN 9 (wholeM (xsOf a)))
              have z5 := z5.setRowOther (g' := g29) (by omega) (arrN 9 (wholeM (xsOf a)))
              have hb := below_setRow hb lb4 (arrN 9 (wholeM (xsOf a)))
              refine hK.out _ _ ⟨hx, hy⟩ (fun hHeld => ?_)
              clear hK K hHeld
              refine one_ (i := 7) (N := none) #[true, true, true, true, true, true, true, true] rfl rfl (by kernel_rfl) (by decide) (fun K hK => ?_)
              refine skip_ (by rfl) rfl (exec_store9 (m := wholeM (xsOf b)) rfl rfl rfl z5 (arrN_size _ _)) ?_
              have m7 := holdsN_row (n := 9) z5 (wholeM (xsOf b))
              have hx := hx.setRowOther (g' := g26) (by omega) (arrN 9 (wholeM (xsOf b)))
              have hy := hy.setRowOther (g' := g26) (by omega) (arrN 9 (wholeM (xsOf b)))
              have m6 := m6.setRowOther (g' := g26) (by omega) (arrN 9 (wholeM (xsOf b)))
              have hb := below_setRow hb lb5 (arrN 9 (wholeM (xsOf b)))
              refine hK.out _ _ ⟨hx, hy⟩ (fun hHeld => ?_)
              clear hK K hHeld
              refine done_ (by kernel_rfl) ?_
              refine hK0 _ _ ?_
              go_meet
              case rel => exact ⟨_, _, rfl, rfl, m6, m7, hb⟩
            · have lx4 := hx.lt
              have ly4 := hy.lt
              have lb4 : B ≤ W27.heap.size := by rw [← HB.out]; exact hb.size
              have lz4 := z5.lt
              refine value_ (by rfl) rfl (exec_alloc9 rfl) ?_
              have hx := hx.alloc (.cells (arrN 9 fun _ => 0) 22)
              have hy := hy.alloc (.cells (arrN 9 fun _ => 0) 22)
              have z5 := z5.alloc (.cells (arrN 9 fun _ => 0) 22)
              have z4 := holdsN_new (W27) 22 9 (fun _ => 0)
              have hb := hb.alloc lb4 (.cells (arrN 9 fun _ => 0) 22)
              refine hK.out _ _ ⟨hx, hy⟩ (fun hHeld => ?_)
              clear hK K hHeld
              refine norm_ (a' := ?_) ?_ ?_
              rotate_left
              · show Act.put _ (some 8) _ = _
                simp only [Act.put, List.setIfInBounds_toArray, List.set_cons_zero, List.set_cons_succ]
                rfl
              generalize (W27).alloc (.cells (arrN 9 fun _ => 0) 22) = W30 at *
              generalize W27.heap.size = g30 at *
              refine one_ (i := 3) (N := some 33) #[true, true, true, true, true, true, false, false] rfl rfl (by kernel_rfl) (by decide) (fun K hK => ?_)
              refine goes_ Try.func25 (by kernel_rfl) rfl #[.agg (arrN 9 (xsOf b))] (by rfl) rfl rfl (by simp only [List.map_toArray, List.map_cons, List.map_nil]; rfl) ?_
              refine (whole_any (xsOf b) _ HWB.out).mono ?_
              rintro e W31 ⟨rfl, b1⟩
              refine ⟨_, rfl, ?_⟩
              have hb := hb.trans (b1.mono (by rw [← HB.out]; exact hb.size))
              have hx := hx.kept b1 hx.lt
              have hy := hy.kept b1 hy.lt
              have z5 := z5.kept b1 z5.lt
              have z4 := z4.kept b1 z4.lt
              refine hK.out _ _ ⟨hx, hy⟩ (fun hHeld => ?_)
              clear hK K b1 hHeld
              refine norm_ (a' := ?_) ?_ ?_
              rotate_left
              · show Act.put _ (some 33) _ = _
                simp only [Act.put, List.setIfInBounds_toArray, List.set_cons_zero, List.set_cons_succ]
                rfl
              refine one_ (i := 6) (N := none) #[true, true, true, true, true, true, true, false] rfl rfl (by kernel_rfl) (by decide) (fun K hK => ?_)
              refine skip_ (by rfl) rfl (exec_store9 (m := wholeM (xsOf a)) rfl rfl rfl z4 (arrN_size _ _)) ?_
              have m6 := holdsN_row (n := 9) z4 (wholeM (xsOf a))
              have hx := hx.setRowOther (g' := g30) (by omega) (arrN 9 (wholeM (xsOf a)))
              have hy := hy.setRowOther (g' := g30) (by omega) (arrN 9 (wholeM (xsOf a)))
              have z5 := z5.setRowOther (g' := g30) (by omega) (arrN 9 (wholeM (xsOf a)))
              have hb := below_setRow hb lb4 (arrN 9 (wholeM (xsOf a)))
              refine hK.out _ _ ⟨hx, hy⟩ (fun hHeld => ?_)
              clear hK K hHeld
              refine one_ (i := 7) (N := none) #[true, true, true, true, true, true, true, true] rfl rfl (by kernel_rfl) (by decide) (fun K hK => ?_)
              refine skip_ (by rfl) rfl (exec_store9 (m := wholeM (xsOf b)) rfl rfl rfl z5 (arrN_size _ _)) ?_
              have m7 := holdsN_row (n := 9) z5 (wholeM (xsOf b))
              have hx := hx.setRowOther (g' := g26) (by omega) (arrN 9 (wholeM (xsOf b)))
              have hy := hy.setRowOther (g' := g26) (by omega) (arrN 9 (wholeM (xsOf b)))
              have m6 := m6.setRowOther (g' := g26) (by omega) (arrN 9 (wholeM (xsOf b)))
              have hb := below_setRow hb lb5 (arrN 9 (wholeM (xsOf b)))
              refine hK.out _ _ ⟨hx, hy⟩ (fun hHeld => ?_)
              clear hK K hHeld
              refine done_ (by kernel_rfl) ?_
              refine hK0 _ _ ?_
              go_meet
              case rel => exact ⟨_, _, rfl, rfl, m6, m7, hb⟩
          · have lx4 := hx.lt
            have ly4 := hy.lt
            have lb4 : B ≤ W26.heap.size := by rw [← HB.out]; exact hb.size
            have lz4 := z5.lt
            refine value_ (by rfl) rfl (exec_alloc9 rfl) ?_
            have hx := hx.alloc (.cells (arrN 9 fun _ => 0) 22)
            have hy := hy.alloc (.cells (arrN 9 fun _ => 0) 22)
            have z5 := z5.alloc (.cells (arrN 9 fun _ => 0) 22)
            have z4 := holdsN_new (W26) 22 9 (fun _ => 0)
            have hb := hb.alloc lb4 (.cells (arrN 9 fun _ => 0) 22)
            refine hK.out _ _ ⟨hx, hy⟩ (fun hHeld => ?_)
            clear hK K hHeld
            refine norm_ (a' := ?_) ?_ ?_
            rotate_left
            · show Act.put _ (some 8) _ = _
              simp only [Act.put, List.setIfInBounds_toArray, List.set_cons_zero, List.set_cons_succ]
              rfl
            generalize (W26).alloc (.cells (arrN 9 fun _ => 0) 22) = W32 at *
            generalize W26.heap.size = g32 at *
            refine one_ (i := 1) (N := some 31) #[true, true, true, false, true, true, false, false] rfl rfl (by kernel_rfl) (by decide) (fun K hK => ?_)
            refine goes_ Try.func25 (by kernel_rfl) rfl #[.agg (arrN 9 (xsOf a))] (by rfl) rfl rfl (by simp only [List.map_toArray, List.map_cons, List.map_nil]; rfl) ?_
            refine (whole_any (xsOf a) _ HWA.out).mono ?_
            rintro e W33 ⟨rfl, b1⟩
            refine ⟨_, rfl, ?_⟩
            have hb := hb.trans (b1.mono (by rw [← HB.out]; exact hb.size))
            have hx := hx.kept b1 hx.lt
            have hy := hy.kept b1 hy.lt
            have z5 := z5.kept b1 z5.lt
            have z4 := z4.kept b1 z4.lt
            refine hK.out _ _ ⟨hx, hy⟩ (fun hHeld => ?_)
            clear hK K b1 hHeld
            refine norm_ (a' := ?_) ?_ ?_
            rotate_left
            · show Act.put _ (some 31) _ = _
              simp only [Act.put, List.setIfInBounds_toArray, List.set_cons_zero, List.set_cons_succ]
              rfl
            refine one_ (i := 3) (N := some 33) #[true, true, true, true, true, true, false, false] rfl rfl (by kernel_rfl) (by decide) (fun K hK => ?_)
            refine goes_ Try.func25 (by kernel_rfl) rfl #[.agg (arrN 9 (xsOf b))] (by rfl) rfl rfl (by simp only [List.map_toArray, List.map_cons, List.map_nil]; rfl) ?_
            refine (whole_any (xsOf b) _ HWB.out).mono ?_
            rintro e W34 ⟨rfl, b1⟩
            refine ⟨_, rfl, ?_⟩
            have hb := hb.trans (b1.mono (by rw [← HB.out]; exact hb.size))
            have hx := hx.kept b1 hx.lt
            have hy := hy.kept b1 hy.lt
            have z5 := z5.kept b1 z5.lt
            have z4 := z4.kept b1 z4.lt
            refine hK.out _ _ ⟨hx, hy⟩ (fun hHeld => ?_)
            clear hK K b1 hHeld
            refine norm_ (a' := ?_) ?_ ?_
            rotate_left
            · show Act.put _ (some 33) _ = _
              simp only [Act.put, List.setIfInBounds_toArray, List.set_cons_zero, List.set_cons_succ]
              rfl
            refine one_ (i := 6) (N := none) #[true, true, true, true, true, true, true, false] rfl rfl (by kernel_rfl) (by decide) (fun K hK => ?_)
            refine skip_ (by rfl) rfl (exec_store9 (m := wholeM (xsOf a)) rfl rfl rfl z4 (arrN_size _ _)) ?_
            have m6 := holdsN_row (n := 9) z4 (wholeM (xsOf a))
            have hx := hx.setRowOther (g' := g32) (by omega) (arrN 9 (wholeM (xsOf a)))
            have hy := hy.setRowOther (g' := g32) (by omega) (arrN 9 (wholeM (xsOf a)))
            have z5 := z5.setRowOther (g' := g32) (by omega) (arrN 9 (wholeM (xsOf a)))
            have hb := below_setRow hb lb4 (arrN 9 (wholeM (xsOf a)))
            refine hK.out _ _ ⟨hx, hy⟩ (fun hHeld => ?_)
            clear hK K hHeld
            refine one_ (i := 7) (N := none) #[true, true, true, true, true, true, true, true] rfl rfl (by kernel_rfl) (by decide) (fun K hK => ?_)
            refine skip_ (by rfl) rfl (exec_store9 (m := wholeM (xsOf b)) rfl rfl rfl z5 (arrN_size _ _)) ?_
            have m7 := holdsN_row (n := 9) z5 (wholeM (xsOf b))
            have hx := hx.setRowOther (g' := g26) (by omega) (arrN 9 (wholeM (xsOf b)))
            have hy := hy.setRowOther (g' := g26) (by omega) (arrN 9 (wholeM (xsOf b)))
            have m6 := m6.setRowOther (g' := g26) (by omega) (arrN 9 (wholeM (xsOf b)))
            have hb := below_setRow hb lb5 (arrN 9 (wholeM (xsOf b)))
            refine hK.out _ _ ⟨hx, hy⟩ (fun hHeld => ?_)
            clear hK K hHeld
            refine done_ (by kernel_rfl) ?_
            refine hK0 _ _ ?_
            go_meet
            case rel => exact ⟨_, _, rfl, rfl, m6, m7, hb⟩
      case rest =>
        obtain ⟨g, h, rfl, rfl, k0, k1, kb⟩ := hcut
        have hA := fun w => det_any (wholeM (xsOf a)) w
        have hB' := fun w => det_any (wholeM (xsOf b)) w
        have hC := fun w => det_any (mulM (wholeM (xsOf a)) (wholeM (xsOf b))) w
        rw [det_whole (small16 SA.out)] at hA
        rw [det_whole (small16 SB.out)] at hB'
        rw [det_mul SA.out SB.out] at hC
        have bA := exact_small SA.out
        have bB := exact_small SB.out
        generalize exactS (xsOf a) = D at *
        generalize exactS (xsOf b) = E at *
        have HA := Lib.hid hA
        have HBB := Lib.hid hB'
        have HC := Lib.hid hC
        clear hA hB' hC HWA HWB SA SB
        go_wp2_with fail
        go_cut [10, 11] (fun s10 s11 wx => s10 = .int .i64 (D * 65536) ∧ s11 = .int .i64 (E * 65536) ∧ holdsN wx g 22 9 (wholeM (xsOf a)) ∧ holdsN wx h 22 9 (wholeM (xsOf b)) ∧ Below B w wx)
        case first =>
          refine wp_region_quiet (C := fun w' => Below B w w' ∧ holdsN w' g 22 9 (wholeM (xsOf a)) ∧ holdsN w' h 22 9 (wholeM (xsOf b))) (by kernel_rfl) (by kernel_rfl) ⟨kb.drew, k0, k1⟩ ?_
          refine wpQuiet_val rfl (v := .agg (arrN 9 (wholeM (xsOf a)))) (fun w hw => quietAt_load 22 _ rfl (run_loadAt_arr (P := Try.prog) 22 hw.2.1 Try.underlying22 hi9)) ?_
          (try simp only [Act.put, List.setIfInBounds_toArray, List.set_cons_zero, List.set_cons_succ])
          refine wpQuiet_val rfl (v := .int .i64 (D * 65536)) (fun w hw => by unfold Oper.quietAt; go_simp; exact (HA.out w).mono fun e w' h => ⟨h.1, hw.1.trans (h.2.mono (by rw [← HB.out]; exact hw.1.size)), hw.2.1.kept h.2 hw.2.1.lt, hw.2.2.kept h.2 hw.2.2.lt⟩) ?_
          (try simp only [Act.put, List.setIfInBounds_toArray, List.set_cons_zero, List.set_cons_succ])
          refine wpQuiet_val rfl (v := .agg (arrN 9 (wholeM (xsOf b)))) (fun w hw => quietAt_load 22 _ rfl (run_loadAt_arr (P := Try.prog) 22 hw.2.2 Try.underlying22 hi9)) ?_
          (try simp only [Act.put, List.setIfInBounds_toArray, List.set_cons_zero, List.set_cons_succ])
          refine wpQuiet_val rfl (v := .int .i64 (E * 65536)) (fun w hw => by unfold Oper.quietAt; go_simp; exact (HBB.out w).mono fun e w' h => ⟨h.1, hw.1.trans (h.2.mono (by rw [← HB.out]; exact hw.1.size)), hw.2.1.kept h.2 hw.2.1.lt, hw.2.2.kept h.2 hw.2.2.lt⟩) ?_
          (try simp only [Act.put, List.setIfInBounds_toArray, List.set_cons_zero, List.set_cons_succ])
          refine wpQuiet_val rfl (v := .int .i64 (D * 65536)) (fun w hw => by unfold Oper.quietAt; go_simp) ?_
          (try simp only [Act.put, List.setIfInBounds_toArray, List.set_cons_zero, List.set_cons_succ])
          refine wpQuiet_val rfl (v := .int .i64 (E * 65536)) (fun w hw => by unfold Oper.quietAt; go_simp) ?_
          (try simp only [Act.put, List.setIfInBounds_toArray, List.set_cons_zero, List.set_cons_succ])
          refine wpQuiet_nil ?_
          intro w' hw'
          rename_i J K' hK
          refine hK _ _ ?_
          go_meet
          case rel => exact ⟨rfl, rfl, hw'.2.1, hw'.2.2, hw'.1⟩
        case rest =>
          obtain ⟨rfl, rfl, k0, k1, kb⟩ := hcut
          go_wp2_with fail
          refine (awake_any _).mono ?_; rintro e w5 ⟨rfl, b1⟩
          have g0 := k0.kept b1 k0.lt
          have g1 := k1.kept b1 k1.lt
          have gb := kb.trans (b1.mono (by rw [← HB.out]; exact kb.size))
          clear k0 k1 kb b1
          obtain ⟨bA0, bA1⟩ := bA
          obtain ⟨bB0, bB1⟩ := bB
          have bC := mul4 (a := 100) (b := 6553600) (x := D) (y := E * 65536) (by omega) (by omega) (by omega) (by omega)
          have t1 : (D * 65536).tmod 65536 = 0 := Int.mul_tmod_left _ _
          have t2 : (E * 65536).tmod 65536 = 0 := Int.mul_tmod_left _ _
          have t3 : (D * 65536).tdiv 65536 = D := Int.mul_tdiv_cancel _ (by omega)
          have t4 : (E * 65536).tdiv 65536 = E := Int.mul_tdiv_cancel _ (by omega)
          have w1 : IntKind.i64.wrap D = D := IntWalk.i64_in _ (by omega)
          have w2 : IntKind.i64.wrap E = E := IntWalk.i64_in _ (by omega)
          have w3 : IntKind.i64.wrap (D * (E * 65536)) = D * (E * 65536) := IntWalk.i64_in _ (by omega)
          have w4 : IntKind.i64.wrap 0 = 0 := IntWalk.i64_in _ (by omega)
          clear bC
          go_wp2_with (first | (refine wpList_load_arr_g rfl 22 (.tmp 8) rfl rfl g0 Try.underlying22 hi9 ?_) | (refine wpList_load_arr_g rfl 22 (.tmp 9) rfl rfl g1 Try.underlying22 hi9 ?_))
          refine (mul_any' _ _ _).mono ?_; rintro e w6 ⟨rfl, b1⟩
          have HB2 := Lib.hid (gb.trans (b1.mono (by rw [← HB.out]; exact gb.size)))
          clear g0 g1 b1 gb
          go_wp2_with fail
          refine (HC.out _).mono ?_; rintro e w7 ⟨rfl, b1⟩
          have HB3 := Lib.hid (HB2.out.trans (b1.mono (by rw [← HB.out]; exact HB2.out.size)))
          clear HB2 b1
          go_wp2
          go_ret
          exact ⟨rfl, by rw [HB.out]; exact HB3.out⟩
end Go.Proofs.Yteehnbgkgdhgaaa.Mx
