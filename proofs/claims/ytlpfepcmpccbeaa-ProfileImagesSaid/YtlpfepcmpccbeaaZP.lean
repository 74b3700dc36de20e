/-
  Proved: contracts of functions of the program and of the reference, several texts of mine in one; the conditions stand at each theorem.
-/
import Derived.Test.YtlpfepcmpccbeaaZK
import Derived.Deep.MidRow
import Derived.Test.YtlpfepcmpccbeaaZWLast
import Derived.Test.YtlpfepcmpccbeaaZM
/-
  Profiles as values; profile.Check and the reference's.
-/
namespace Go.Proofs.Ytlpfepcmpccbeaa.Pf
open Go.RowKit Go.Proofs.Ytlpfepcmpccbeaa.NM Go.Proofs.Ytlpfepcmpccbeaa.Cv Go.Proofs.Ytlpfepcmpccbeaa.Nm9 Go.Proofs.Ytlpfepcmpccbeaa.Mx Go.Proofs.Ytlpfepcmpccbeaa.PNum Go.Proofs.YtlpfepcmpccbeaaW.PrintWords Go.Proofs.YtlpfepcmpccbeaaW.PrintMore
set_option linter.unusedVariables false

/-- the cells of a profile: its name, its curve, its matrix -/
def profC (nm : ByteArray) (s : Value) (m : Nat → Int) : Array Value := #[.string nm, s] ++ arrN 9 m
theorem profC_0 (nm : ByteArray) (s : Value) (m : Nat → Int) : (profC nm s m)[0]? = some (.string nm) := rfl
theorem profC_m (nm : ByteArray) (s : Value) (m : Nat → Int) (k : Nat) (h : k < 9) : (profC nm s m)[2 + k]? = some (.int .i64 (m k)) := by
  unfold profC
  rw [Array.getElem?_append_right (by simp)]
  have := arrN_get 9 m k h
  simpa using this
def holdsP (w : World) (g t : Nat) (nm : ByteArray) (s : Value) (m : Nat → Int) : Prop := w.heap[g]? = some (.cells (profC nm s m) t (0, 0))
theorem holdsP.c0 {w : World} {g t : Nat} {nm : ByteArray} {s : Value} {m : Nat → Int} (h : holdsP w g t nm s m) : w.cell? ⟨g, 0, none⟩ = some (.string nm) := by
  rw [cell_of_row w g 0 _ t _ h]; rfl
theorem holdsP.c1 {w : World} {g t : Nat} {nm : ByteArray} {s : Value} {m : Nat → Int} (h : holdsP w g t nm s m) : w.cell? ⟨g, 1, none⟩ = some s := by
  rw [cell_of_row w g 1 _ t _ h]; rfl
theorem holdsP.cm {w : World} {g t : Nat} {nm : ByteArray} {s : Value} {m : Nat → Int} (h : holdsP w g t nm s m) : w.rangeAt g 2 (arrN 9 m).toList := by
  intro j v hv
  rw [cell_of_row w g (2 + j) _ t _ h]
  have hj : j < 9 := by
    have := (List.getElem?_eq_some_iff.1 hv).1
    simpa [arrN] using this
  rw [profC_m nm s m j hj]
  have h2 := arrN_get 9 m j hj
  rw [← Array.getElem?_toList] at h2
  rw [← h2]; exact hv
theorem holdsP.lt {w : World} {g t : Nat} {nm : ByteArray} {s : Value} {m : Nat → Int} (h : holdsP w g t nm s m) : g < w.heap.size := (Array.getElem?_eq_some_iff.1 h).1
theorem holdsP.kept {w w' : World} {g t : Nat} {nm : ByteArray} {s : Value} {m : Nat → Int} (h : holdsP w g t nm s m) {B : Nat} (hb : Below B w w') (hg : g < B) : holdsP w' g t nm s m := by
  unfold holdsP
  rw [hb.block g hg]; exact h
theorem wpList_load_M {ops : Array Oper} {rest : List Oper} {o : Oper} {a : Act} {w : World} {Q : Exit → Act → World → Prop} (hgd : o.guard = none) (x : Operand) (ho : o.op = .load 23 x)
    {g t : Nat} {nm : ByteArray} {s : Value} {m : Nat → Int} (hx : a.eval x = .pointer (some ⟨g, 2, none⟩)) (hh : holdsP w g t nm s m)
    (h : wpList Try.prog ops Q rest (a.put o.dst (.agg (arrN 9 m))) w) : wpList Try.prog ops Q (o :: rest) a w :=
  wpList_load_mid hgd 23 x ho g 2 hx (arrN 9 m).toList _ hh.cm Try.underlying23 rfl (by rw [Array.length_toList, arrN_size]; exact hi9) h
def profCheck (nm : ByteArray) (l : List Kn) (m : Nat → Int) : Int := if nameS nm = true then (if invCode m = 0 ∧ risingK l = true then 0 else 16) else 13

set_option maxRecDepth 20000 in
set_option maxHeartbeats 2000000 in
theorem pcheck_any (nm : ByteArray) (A : Option Addr) (c : Nat) (l : List Kn) (m : Nat → Int) (w : World) (hs : nm.size ≤ 140737488355232) (hr : Kd.C k72 w A l.length l) (hc : l.length ≤ c) :
    Calls Try.prog 22 #[.agg (profC nm (.slice A l.length c) m)] w fun e w' => e = .returned (.int .i64 (profCheck nm l m)) ∧ Below w.heap.size w w' := by
  have HN := Lib.hid (fun w => name_any nm w hs)
  have HI := Lib.hid (fun w => inverse_any m w)
  have HR : Hid (∀ w', Below w.heap.size w w' → Calls Try.prog 52 #[.slice A l.length c] w' fun e w'' => e = .returned (.bool (risingK l)) ∧ Below w'.heap.size w' w'') := fun w' hb => curve_Rising.calls 33 A c l _ w' (Kd.C_below hr hb) hc (rising_eq l 33 (by omega))
  have HP : Hid (profCheck nm l m = if nameS nm = true then (if invCode m = 0 ∧ risingK l = true then 0 else 16) else 13) := rfl
  generalize nameS nm = b1 at *
  generalize risingK l = b2 at *
  generalize invCode m = ic at *
  go_enter Try.func22, Try.ntmps22
  go_upto_region 1 with fail
  have h0 : holdsP (w.alloc (.cells (profC nm (.slice A l.length c) m) 25)) w.heap.size 25 nm (.slice A l.length c) m := heap_alloc_new _ _
  have hb : Below w.heap.size w (w.alloc (.cells (profC nm (.slice A l.length c) m) 25)) := (Below.refl _ _).alloc (Nat.le_refl _) _
  generalize w.alloc (.cells (profC nm (.slice A l.length c) m) 25) = wc at *
  generalize hB : w.heap.size = B at *
  have HB := Lib.hid hB
  clear hB
  have c0 := h0.c0
  go_wp2_with fail
  refine (HN.out _).mono ?_; rintro e w1 ⟨rfl, d1⟩
  have g0 := h0.kept d1 h0.lt
  have gb := hb.trans (d1.mono (by rw [← HB.out]; exact hb.size))
  clear c0 h0 hb d1
  cases b1
  · go_wp2
    go_ret
    exact ⟨Mx.ret_int HP.out.symm, by rw [HB.out]; exact gb⟩
  · go_wp2_with (refine wpList_load_M rfl (.tmp 10) rfl rfl g0 ?_)
    refine (HI.out _).mono ?_; rintro e w2 ⟨rfl, d2⟩
    have k0 := g0.kept d2 g0.lt
    have kb := gb.trans (d2.mono (by rw [← HB.out]; exact gb.size))
    clear g0 gb d2
    have H3 : (w2.alloc (.cells #[.int .i64 0, .int .i64 0, .int .i64 0, .int .i64 0, .int .i64 0, .int .i64 0, .int .i64 0, .int .i64 0, .int .i64 0] 23)).heap[w2.heap.size]? = some (.cells #[.int .i64 0, .int .i64 0, .int .i64 0, .int .i64 0, .int .i64 0, .int .i64 0, .int .i64 0, .int .i64 0, .int .i64 0] 23 (0, 0)) := holdsN_new w2 23 9 (fun _ => 0)
    have kb' := below_setRow (kb.alloc (by rw [← HB.out]; exact kb.size) (.cells #[.int .i64 0, .int .i64 0, .int .i64 0, .int .i64 0, .int .i64 0, .int .i64 0, .int .i64 0, .int .i64 0, .int .i64 0] 23)) (by rw [← HB.out]; exact kb.size) (arrN 9 (invV m))
    have k0' : holdsP ((w2.alloc (.cells #[.int .i64 0, .int .i64 0, .int .i64 0, .int .i64 0, .int .i64 0, .int .i64 0, .int .i64 0, .int .i64 0, .int .i64 0] 23)).setRow w2.heap.size (arrN 9 (invV m))) B 25 nm (.slice A l.length c) m := by
      have hlt := k0.lt
      unfold holdsP
      rw [show ((w2.alloc (.cells #[.int .i64 0, .int .i64 0, .int .i64 0, .int .i64 0, .int .i64 0, .int .i64 0, .int .i64 0, .int .i64 0, .int .i64 0] 23)).setRow w2.heap.size (arrN 9 (invV m))).heap[B]? = (w2.alloc (.cells #[.int .i64 0, .int .i64 0, .int .i64 0, .int .i64 0, .int .i64 0, .int .i64 0, .int .i64 0, .int .i64 0, .int .i64 0] 23)).heap[B]? by simp only [World.setRow]; rw [Array.getElem?_modify, if_neg (by omega)]]
      show (w2.heap.push _)[B]? = _
      rw [Array.getElem?_push, if_neg (by omega)]
      exact k0
    have c1 := k0'.c1
    go_upto_region 4 with (first | (refine wpList_store_arr rfl 23 (.tmp 3) (.tmp 13) rfl rfl rfl H3 rfl hi9 ?_))
    clear H3 k0 kb k0'
    generalize (w2.alloc (.cells #[.int .i64 0, .int .i64 0, .int .i64 0, .int .i64 0, .int .i64 0, .int .i64 0, .int .i64 0, .int .i64 0, .int .i64 0] 23)).setRow w2.heap.size (arrN 9 (invV m)) = w3 at *
    by_cases hic : ic = 0
    · have HR3 := Lib.hid (HR.out w3 kb')
      have KB := Lib.hid kb'
      clear HR kb' HI HN
      cases b2
      · have HP1 : Hid (profCheck nm l m = 16) := by show _ = _; rw [HP.out]; simp
        subst hic
        go_wp2_with fail
        refine HR3.out.mono ?_; rintro e w4 ⟨rfl, d4⟩
        go_wp2
        go_ret
        exact ⟨Mx.ret_int HP1.out.symm, by rw [HB.out]; exact KB.out.trans (d4.mono (by rw [← HB.out]; exact KB.out.size))⟩
      · have HP1 : Hid (profCheck nm l m = 0) := by show _ = _; rw [HP.out, hic]; simp
        subst hic
        go_wp2_with fail
        refine HR3.out.mono ?_; rintro e w4 ⟨rfl, d4⟩
        go_wp2
        go_ret
        exact ⟨Mx.ret_int HP1.out.symm, by rw [HB.out]; exact KB.out.trans (d4.mono (by rw [← HB.out]; exact KB.out.size))⟩
    · have HP1 : Hid (profCheck nm l m = 16) := by show _ = _; rw [HP.out]; simp [hic]
      have hne : (ic == 0) = false := by simpa using hic
      go_wp2
      go_ret
      exact ⟨Mx.ret_int HP1.out.symm, by rw [HB.out]; exact kb'⟩
theorem drawn_below {w w' : World} (h : Drawn0 w w') : Below w.heap.size w w' := by
  obtain ⟨n, rfl⟩ := h
  exact below_drewN (Below.refl _ _) n
set_option maxRecDepth 20000 in
set_option maxHeartbeats 2000000 in
theorem rpcheck_any (nm : ByteArray) (A : Option Addr) (c : Nat) (l : List Kn) (m : Nat → Int) (w : World) (hs : nm.size ≤ 140737488355232) (hr : Kd.C k72 w A l.length l) (hc : l.length ≤ c) :
    Calls Try.prog 23 #[.agg (profC nm (.slice A l.length c) m)] w fun e w' => e = .returned (.int .i64 (profCheck nm l m)) ∧ Below w.heap.size w w' := by
  have HN := Lib.hid (fun w => (rname_any nm w hs).mono fun e w' h => And.intro h.1 (drawn_below h.2))
  have HI := Lib.hid (fun w => rinverse_any m w)
  have HR : Hid (∀ w', Below w.heap.size w w' → Calls Try.prog 55 #[.slice A l.length c] w' fun e w'' => e = .returned (.bool (risingK l)) ∧ Below w'.heap.size w' w'') := fun w' hb => (imageeditorref07_Rising.calls 33 A c l _ w' (Kd.C_below hr hb) hc (rrising_eq l 33 (by omega))).mono fun e w'' h => And.intro h.1 (drawn_below h.2)
  have HP : Hid (profCheck nm l m = if nameS nm = true then (if invCode m = 0 ∧ risingK l = true then 0 else 16) else 13) := rfl
  generalize nameS nm = b1 at *
  generalize risingK l = b2 at *
  generalize invCode m = ic at *
  go_enter Try.func23, Try.ntmps23
  go_upto_region 1 with fail
  have h0 : holdsP (w.alloc (.cells (profC nm (.slice A l.length c) m) 25)) w.heap.size 25 nm (.slice A l.length c) m := heap_alloc_new _ _
  have hb : Below w.heap.size w (w.alloc (.cells (profC nm (.slice A l.length c) m) 25)) := (Below.refl _ _).alloc (Nat.le_refl _) _
  generalize w.alloc (.cells (profC nm (.slice A l.length c) m) 25) = wc at *
  generalize hB : w.heap.size = B at *
  have HB := Lib.hid hB
  clear hB
  have c0 := h0.c0
  go_wp2_with fail
  refine (HN.out _).mono ?_; rintro e w1 ⟨rfl, d1⟩
  have g0 := h0.kept d1 h0.lt
  have gb := hb.trans (d1.mono (by rw [← HB.out]; exact hb.size))
  clear c0 h0 hb d1
  cases b1
  · go_wp2
    go_ret
    exact ⟨Mx.ret_int HP.out.symm, by rw [HB.out]; exact gb⟩
  · go_wp2_with (refine wpList_load_M rfl (.tmp 10) rfl rfl g0 ?_)
    refine (HI.out _).mono ?_; rintro e w2 ⟨rfl, d2⟩
    have k0 := g0.kept d2 g0.lt
    have kb := gb.trans (d2.mono (by rw [← HB.out]; exact gb.size))
    clear g0 gb d2
    have H3 : (w2.alloc (.cells #[.int .i64 0, .int .i64 0, .int .i64 0, .int .i64 0, .int .i64 0, .int .i64 0, .int .i64 0, .int .i64 0, .int .i64 0] 23)).heap[w2.heap.size]? = some (.cells #[.int .i64 0, .int .i64 0, .int .i64 0, .int .i64 0, .int .i64 0, .int .i64 0, .int .i64 0, .int .i64 0, .int .i64 0] 23 (0, 0)) := holdsN_new w2 23 9 (fun _ => 0)
    have kb' := below_setRow (kb.alloc (by rw [← HB.out]; exact kb.size) (.cells #[.int .i64 0, .int .i64 0, .int .i64 0, .int .i64 0, .int .i64 0, .int .i64 0, .int .i64 0, .int .i64 0, .int .i64 0] 23)) (by rw [← HB.out]; exact kb.size) (arrN 9 (invV m))
    have k0' : holdsP ((w2.alloc (.cells #[.int .i64 0, .int .i64 0, .int .i64 0, .int .i64 0, .int .i64 0, .int .i64 0, .int .i64 0, .int .i64 0, .int .i64 0] 23)).setRow w2.heap.size (arrN 9 (invV m))) B 25 nm (.slice A l.length c) m := by
      have hlt := k0.lt
      unfold holdsP
      rw [show ((w2.alloc (.cells #[.int .i64 0, .int .i64 0, .int .i64 0, .int .i64 0, .int .i64 0, .int .i64 0, .int .i64 0, .int .i64 0, .int .i64 0] 23)).setRow w2.heap.size (arrN 9 (invV m))).heap[B]? = (w2.alloc (.cells #[.int .i64 0, .int .i64 0, .int .i64 0, .int .i64 0, .int .i64 0, .int .i64 0, .int .i64 0, .int .i64 0, .int .i64 0] 23)).heap[B]? by simp only [World.setRow]; rw [Array.getElem?_modify, if_neg (by omega)]]
      show (w2.heap.push _)[B]? = _
      rw [Array.getElem?_push, if_neg (by omega)]
      exact k0
    have c1 := k0'.c1
    go_upto_region 4 with (first | (refine wpList_store_arr rfl 23 (.tmp 3) (.tmp 13) rfl rfl rfl H3 rfl hi9 ?_))
    clear H3 k0 kb k0'
    generalize (w2.alloc (.cells #[.int .i64 0, .int .i64 0, .int .i64 0, .int .i64 0, .int .i64 0, .int .i64 0, .int .i64 0, .int .i64 0, .int .i64 0] 23)).setRow w2.heap.size (arrN 9 (invV m)) = w3 at *
    have HR3 := Lib.hid (HR.out w3 kb')
    have KB := Lib.hid kb'
    clear HR kb' HI HN
    go_wp2_with fail
    refine HR3.out.mono ?_; rintro e w4 ⟨rfl, d4⟩
    have hfin := KB.out.trans (d4.mono (by rw [← HB.out]; exact KB.out.size))
    clear d4 KB HR3
    cases b2
    · have HP1 : Hid (profCheck nm l m = 16) := by show _ = _; rw [HP.out]; simp
      go_wp2
      go_ret
      exact ⟨Mx.ret_int HP1.out.symm, by rw [HB.out]; exact hfin⟩
    · by_cases hic : ic = 0
      · have HP1 : Hid (profCheck nm l m = 0) := by show _ = _; rw [HP.out, hic]; simp
        subst hic
        go_wp2
        go_ret
        exact ⟨Mx.ret_int HP1.out.symm, by rw [HB.out]; exact hfin⟩
      · have HP1 : Hid (profCheck nm l m = 16) := by show _ = _; rw [HP.out]; simp [hic]
        have hne : (ic == 0) = false := by simpa using hic
        go_wp2
        go_ret
        exact ⟨Mx.ret_int HP1.out.symm, by rw [HB.out]; exact hfin⟩
end Go.Proofs.Ytlpfepcmpccbeaa.Pf
/-
  == of two profiles: profile.equal.
-/
namespace Go.Proofs.Ytlpfepcmpccbeaa.Pf
open Go.RowKit Go.Proofs.Ytlpfepcmpccbeaa.NM Go.Proofs.Ytlpfepcmpccbeaa.Cv Go.Proofs.Ytlpfepcmpccbeaa.Nm9 Go.Proofs.Ytlpfepcmpccbeaa.Mx Go.Proofs.Ytlpfepcmpccbeaa.PNum Go.Proofs.YtlpfepcmpccbeaaW.PrintWords Go.Proofs.YtlpfepcmpccbeaaW.PrintMore
attribute [local go_sem] eq9 eq3
set_option linter.unusedVariables false

def eqd (l l' : List Kn) : Nat → Nat → Bool
  | 0, _ => true
  | n + 1, i => if kx l i = kx l' i ∧ ky l i = ky l' i then eqd l l' n (i + 1) else false
def sameK (l l' : List Kn) : Bool := if l.length = l'.length then eqd l l' l.length 0 else false
theorem eqd_refl (l : List Kn) : ∀ n i, eqd l l n i = true
  | 0, _ => rfl
  | n + 1, i => by
    show (if _ then _ else _) = _
    rw [if_pos ⟨rfl, rfl⟩]; exact eqd_refl l n (i + 1)
theorem knot_l0 (l l' : List Kn) (hl : l.length ≤ 140737488355232) (he : l.length = l'.length) : ∀ (n i k : Nat), i + n = l.length → n + 1 ≤ k → api_Knot.l0 k l l' (l.length : Int) (i : Int) = some (eqd l l' n i)
  | 0, i, k, hi, hk => by
    obtain ⟨k, rfl⟩ : ∃ k', k = k' + 1 := ⟨k - 1, by omega⟩
    rw [api_Knot.l0, if_neg (by omega)]
    rfl
  | n + 1, i, k, hi, hk => by
    obtain ⟨k, rfl⟩ : ∃ k', k = k' + 1 := ⟨k - 1, by omega⟩
    have ih := knot_l0 l l' hl he n (i + 1) k (by omega) (by omega)
    rw [api_Knot.l0, if_pos (by omega), if_pos (by omega), if_pos (by omega), if_pos (by omega), w64' (x := (i : Int) + 1) (by omega) (by omega)]
    simp only [rdx, rdy, eqd]
    have ih' : api_Knot.l0 k l l' (l.length : Int) ((i : Int) + 1) = some (eqd l l' n (i + 1)) := by rw [← ih]; congr 1
    rw [ih']
    by_cases h1 : kx l i = kx l' i <;> by_cases h2 : ky l i = ky l' i <;> simp [h1, h2]
theorem knot_any (A A' : Option Addr) (c c' : Nat) (l l' : List Kn) (w : World) (hl : l.length ≤ 140737488355232) (hr : Kd.C k72 w A l.length l) (hc : l.length ≤ c) (hr' : Kd.C k72 w A' l'.length l') (hc' : l'.length ≤ c') :
    Calls Try.prog 67 #[.slice A l.length c, .slice A' l'.length c'] w fun e w' => e = .returned (.bool (sameK l l')) ∧ Drawn0 w w' := by
  refine api_Knot.calls (l.length + 1) A c l A' c' l' _ w hr hc hr' hc' ?_
  unfold api_Knot.f sameK
  by_cases he : l.length = l'.length
  · rw [if_pos (by omega), if_pos he]
    exact knot_l0 l l' hl he l.length 0 _ (by omega) (by omega)
  · rw [if_neg (by omega), if_neg he]
theorem holdsP.alloc {w : World} {g t : Nat} {nm : ByteArray} {s : Value} {m : Nat → Int} (h : holdsP w g t nm s m) (o : Obj) : holdsP (w.alloc o) g t nm s m := by
  have hl := h.lt
  unfold holdsP
  show (w.heap.push o)[g]? = _
  rw [Array.getElem?_push, if_neg (by omega)]; exact h
theorem holdsP_new (w : World) (t : Nat) (nm : ByteArray) (s : Value) (m : Nat → Int) : holdsP (w.alloc (.cells (profC nm s m) t)) w.heap.size t nm s m := heap_alloc_new _ _
theorem wpList_load_Mg {ops : Array Oper} {rest : List Oper} {o : Oper} {a : Act} {w : World} {Q : Exit → Act → World → Prop} (hw : Region.wanted o (yielded ops a.tmps) = true) (x : Operand) (ho : o.op = .load 23 x)
    {g t : Nat} {nm : ByteArray} {s : Value} {m : Nat → Int} (hx : a.eval x = .pointer (some ⟨g, 2, none⟩)) (hh : holdsP w g t nm s m)
    (h : wpList Try.prog ops Q rest (a.put o.dst (.agg (arrN 9 m))) w) : wpList Try.prog ops Q (o :: rest) a w :=
  wpList_step fun K hK => by rw [if_pos hw]; exact wp_load_mid 23 x ho g 2 hx (arrN 9 m).toList _ hh.cm Try.underlying23 rfl (by rw [Array.length_toList, arrN_size]; exact hi9) (hK _ _ h)
/-- are two profiles equal? -/
def profSame (nm : ByteArray) (l : List Kn) (m : Nat → Int) (nm' : ByteArray) (l' : List Kn) (m' : Nat → Int) : Bool := if (nm.toList == nm'.toList) = true then (if eqN 9 m m' = true then sameK l l' else false) else false
set_option maxRecDepth 20000 in
set_option maxHeartbeats 2000000 in
theorem pequal_any (nm nm' : ByteArray) (A A' : Option Addr) (c c' : Nat) (l l' : List Kn) (m m' : Nat → Int) (w : World) (hl : l.length ≤ 140737488355232) (hr : Kd.C k72 w A l.length l) (hc : l.length ≤ c) (hr' : Kd.C k72 w A' l'.length l') (hc' : l'.length ≤ c') :
    Calls Try.prog 34 #[.agg (profC nm (.slice A l.length c) m), .agg (profC nm' (.slice A' l'.length c') m')] w fun e w' => e = .returned (.bool (profSame nm l m nm' l' m')) ∧ Below w.heap.size w w' := by
  have HK : Hid (∀ w', Below w.heap.size w w' → Calls Try.prog 67 #[.slice A l.length c, .slice A' l'.length c'] w' fun e w'' => e = .returned (.bool (sameK l l')) ∧ Drawn0 w' w'') := fun w' hb => knot_any A A' c c' l l' w' hl (Kd.C_below hr hb) hc (Kd.C_below hr' hb) hc'
  have HP : Hid (profSame nm l m nm' l' m' = if (nm.toList == nm'.toList) = true then (if eqN 9 m m' = true then sameK l l' else false) else false) := rfl
  go_enter Try.func34, Try.ntmps34
  go_upto_region 1 with fail
  have h0 : holdsP ((w.alloc (.cells (profC nm (.slice A l.length c) m) 25)).alloc (.cells (profC nm' (.slice A' l'.length c') m') 25)) w.heap.size 25 nm (.slice A l.length c) m := (holdsP_new w 25 nm _ m).alloc _
  have h1 : holdsP ((w.alloc (.cells (profC nm (.slice A l.length c) m) 25)).alloc (.cells (profC nm' (.slice A' l'.length c') m') 25)) (w.heap.size + 1) 25 nm' (.slice A' l'.length c') m' := by
    have := holdsP_new (w.alloc (.cells (profC nm (.slice A l.length c) m) 25)) 25 nm' (.slice A' l'.length c') m'
    simpa using this
  have hb : Below w.heap.size w ((w.alloc (.cells (profC nm (.slice A l.length c) m) 25)).alloc (.cells (profC nm' (.slice A' l'.length c') m') 25)) := ((Below.refl _ _).alloc (Nat.le_refl _) _).alloc (by simp) _
  have c0 := h0.c0
  have c1 := h1.c0
  have c2 := h0.c1
  have c3 := h1.c1
  have HK2 := Lib.hid (HK.out _ hb)
  generalize ((w.alloc (.cells (profC nm (.slice A l.length c) m) 25)).alloc (.cells (profC nm' (.slice A' l'.length c') m') 25)) = wc at *
  generalize hB : w.heap.size = B at *
  have HB := Lib.hid hB
  clear hB HK
  generalize hE : (nm.toList == nm'.toList) = b1 at *
  generalize hE2 : eqN 9 m m' = b2 at *
  generalize sameK l l' = b3 at *
  cases b1
  · have HP1 : Hid (profSame nm l m nm' l' m' = false) := by show _ = _; rw [HP.out]; simp
    go_wp2
    go_ret
    exact ⟨by rw [HP1.out]; rfl, by rw [HB.out]; exact hb⟩
  · cases b2
    · have HP1 : Hid (profSame nm l m nm' l' m' = false) := by show _ = _; rw [HP.out]; simp
      go_wp2_with (first | (refine wpList_load_Mg rfl (.tmp 11) rfl rfl h0 ?_) | (refine wpList_load_Mg rfl (.tmp 13) rfl rfl h1 ?_))
      go_ret
      exact ⟨by rw [HP1.out]; rfl, by rw [HB.out]; exact hb⟩
    · have HP1 : Hid (profSame nm l m nm' l' m' = b3) := by show _ = _; rw [HP.out]; simp
      go_wp2_with (first | (refine wpList_load_Mg rfl (.tmp 11) rfl rfl h0 ?_) | (refine wpList_load_Mg rfl (.tmp 13) rfl rfl h1 ?_))
      refine HK2.out.mono ?_; rintro e w4 ⟨rfl, ⟨nd, rfl⟩⟩
      go_wp2
      go_ret
      exact ⟨by rw [HP1.out]; rfl, by rw [HB.out]; exact below_drewN hb nd⟩
end Go.Proofs.Ytlpfepcmpccbeaa.Pf
/-
  Pixels and the values of curves: contracts.
-/
namespace Go.Proofs.Ytlpfepcmpccbeaa.Pf
open Go.RowKit Go.Proofs.Ytlpfepcmpccbeaa.NM Go.Proofs.Ytlpfepcmpccbeaa.Cv Go.Proofs.Ytlpfepcmpccbeaa.Nm9 Go.Proofs.Ytlpfepcmpccbeaa.Mx Go.Proofs.Ytlpfepcmpccbeaa.PNum Go.Proofs.YtlpfepcmpccbeaaW.PrintWords Go.Proofs.YtlpfepcmpccbeaaW.PrintMore
set_option linter.unusedVariables false

def lim (x : Int) : Int := clampS x 0 65535
/-- the cells of a pixel -/
def pixC (r g b a : Int) : Array Value := #[.int .i64 r, .int .i64 g, .int .i64 b, .int .i64 a]
theorem punit_eq (x : Int) : pixel_unit.f x = some (lim x) := by unfold pixel_unit.f; rw [clamp_eq]; rfl
theorem ru_eq (x : Int) : imageeditorref06_U.f x = some (lim x) := by unfold imageeditorref06_U.f; rw [rclamp_eq]; rfl
theorem limit_any (r g b a : Int) (w : World) : Calls Try.prog 39 #[.agg (pixC r g b a)] w fun e w' => e = .returned (.agg (pixC (lim r) (lim g) (lim b) (lim a))) ∧ Below w.heap.size w w' := by
  refine pixel_Limit.calls r g b a _ _ _ _ w ?_
  unfold pixel_Limit.f
  simp only [punit_eq, Option.bind_some]
theorem rlimit_any (r g b a : Int) (w : World) : Calls Try.prog 58 #[.agg (pixC r g b a)] w fun e w' => e = .returned (.agg (pixC (lim r) (lim g) (lim b) (lim a))) ∧ Below w.heap.size w w' := by
  refine imageeditorref06_Limit.calls r g b a _ _ _ _ w ?_
  unfold imageeditorref06_Limit.f
  simp only [ru_eq, Option.bind_some]
theorem at_any (A : Option Addr) (c : Nat) (l : List Kn) (x : Int) (w : World) (hr : Kd.C k72 w A l.length l) (hc : l.length ≤ c) :
    Calls Try.prog 70 #[.slice A l.length c, .int .i64 x] w fun e w' => e = .returned (.int .i64 (atK l x)) ∧ Below w.heap.size w w' := by
  obtain ⟨k, hk⟩ := at_eq l x
  exact curve_At.calls k A c l x _ w hr hc hk
theorem rat_any (A : Option Addr) (c : Nat) (l : List Kn) (x : Int) (w : World) (hr : Kd.C k72 w A l.length l) (hc : l.length ≤ c) :
    Calls Try.prog 59 #[.slice A l.length c, .int .i64 x] w fun e w' => e = .returned (.int .i64 (atK l x)) ∧ Below w.heap.size w w' := by
  obtain ⟨k, hk⟩ := rat_eq l x
  exact imageeditorref07_At.calls k A c l x _ w hr hc hk
theorem valid_eq (r g b a : Int) : pixel_Valid.f r g b a = some (r == lim r && (g == lim g && (b == lim b && (a == lim a)))) := by
  unfold pixel_Valid.f pixel_Limit.f
  simp only [punit_eq, Option.bind_some]
theorem rvalid_eq (r g b a : Int) : imageeditorref06_Valid.f r g b a = some (lim r == r && (lim g == g && (lim b == b && (lim a == a)))) := by
  unfold imageeditorref06_Valid.f imageeditorref06_Limit.f
  simp only [ru_eq, Option.bind_some]
/-- the color in the connection space -/
def linV (l : List Kn) (m : Nat → Int) (r g b : Int) : Nat → Int := applyM m (fun k => atK l (lim (([r, g, b] : List Int).getD k 0)))
end Go.Proofs.Ytlpfepcmpccbeaa.Pf
/-
  profile.linear.
-/
namespace Go.Proofs.Ytlpfepcmpccbeaa.Pf
open Go.RowKit Go.Proofs.Ytlpfepcmpccbeaa.NM Go.Proofs.Ytlpfepcmpccbeaa.Cv Go.Proofs.Ytlpfepcmpccbeaa.Nm9 Go.Proofs.Ytlpfepcmpccbeaa.Mx Go.Proofs.Ytlpfepcmpccbeaa.PNum Go.Proofs.YtlpfepcmpccbeaaW.PrintWords Go.Proofs.YtlpfepcmpccbeaaW.PrintMore Go.Proofs.YtlpfepcmpccbeaaW.PrintLast
set_option linter.unusedVariables false

theorem exec_build {o : Oper} {a : Act} {w : World} {t : TypeId} {parts : Array (Nat × Operand)} {cells : Array Value} (ho : o.op = .build t parts) (hc : Try.prog.built t (parts.map fun (i, x) => (i, a.eval x)).toList = some cells) :
    (execOp a.eval o).run Try.prog w = .ok (.value (.agg cells)) w := by
  unfold execOp
  simp only [ho, Sem.run_bind, run_build w t _ cells hc, Result.andThen_ok, Sem.run_pure]
theorem exec_store3 {o : Oper} {a : Act} {w : World} {x y : Operand} {g t : Nat} {m : Nat → Int} {old : Array Value} (ho : o.op = .store 47 x y) (hx : a.eval x = .pointer (some ⟨g, 0, none⟩)) (hy : a.eval y = .agg (arrN 3 m)) (hg : w.heap[g]? = some (.cells old t (0, 0))) (hold : old.size = 3) :
    (execOp a.eval o).run Try.prog w = .ok .skip (w.setRow g (arrN 3 m)) := by
  unfold execOp
  simp only [ho, hx, hy, Instr.storeAt, Instr.sureAddr, Sem.run_bind, Sem.run_pure, Result.andThen_ok, run_storeVar_row w g t 47 old (arrN 3 m) hg (by rw [arrN_size]; exact hi3) (by rw [arrN_size]; exact hold) (arrN_one 3 m)]
theorem exec_loadM {o : Oper} {a : Act} {w : World} {x : Operand} {g t : Nat} {nm : ByteArray} {s : Value} {m : Nat → Int} (ho : o.op = .load 23 x) (hx : a.eval x = .pointer (some ⟨g, 2, none⟩)) (hh : holdsP w g t nm s m) :
    (execOp a.eval o).run Try.prog w = .ok (.value (.agg (arrN 9 m))) w := by
  unfold execOp
  have := run_loadVar_mid (P := Try.prog) w g 2 23 (arrN 9 m).toList _ hh.cm Try.underlying23 rfl (by rw [Array.length_toList, arrN_size]; exact hi9)
  simp only [ho, hx, Instr.loadAt, Instr.sureAddr, Sem.run_bind, Sem.run_pure, Result.andThen_ok, this]
/-- the block g holds these cells -/
def holdsC (w : World) (g t : Nat) (c : Array Value) : Prop := w.heap[g]? = some (.cells c t (0, 0))
theorem holdsC.lt {w : World} {g t : Nat} {c : Array Value} (h : holdsC w g t c) : g < w.heap.size := (Array.getElem?_eq_some_iff.1 h).1
theorem holdsC.kept {w w' : World} {g t : Nat} {c : Array Value} (h : holdsC w g t c) {B : Nat} (hb : Below B w w') (hg : g < B) : holdsC w' g t c := by
  unfold holdsC
  rw [hb.block g hg]; exact h
theorem holdsC.alloc {w : World} {g t : Nat} {c : Array Value} (h : holdsC w g t c) (o : Obj) : holdsC (w.alloc o) g t c := by
  have hl := h.lt
  unfold holdsC
  show (w.heap.push o)[g]? = _
  rw [Array.getElem?_push, if_neg (by omega)]; exact h
theorem holdsC.cell {w : World} {g t : Nat} {c : Array Value} (h : holdsC w g t c) (k : Nat) (v : Value) (hk : c[k]? = some v) : w.cell? ⟨g, k, none⟩ = some v := by
  rw [cell_of_row w g k _ t _ h]; exact hk
theorem holdsC_row {w : World} {g t : Nat} {old : Array Value} (h : holdsC w g t old) (c : Array Value) : holdsC (w.setRow g c) g t c := setRow_heap w g old c t _ h
theorem holdsC.setRowOther {w : World} {g t g' : Nat} {c : Array Value} (h : holdsC w g t c) (hne : g ≠ g') (r : Array Value) : holdsC (w.setRow g' r) g t c := by
  unfold holdsC at *
  rw [← h]
  simp only [World.setRow]
  rw [Array.getElem?_modify, if_neg (by omega)]
set_option maxRecDepth 20000 in
set_option maxHeartbeats 2000000 in
theorem plinear_any (nm : ByteArray) (A : Option Addr) (c : Nat) (l : List Kn) (m : Nat → Int) (r g b a : Int) (w : World) (hr : Kd.C k72 w A l.length l) (hc : l.length ≤ c) :
    Calls Try.prog 37 #[.agg (profC nm (.slice A l.length c) m), .agg (pixC r g b a)] w fun e w' => e = .returned (.agg (arrN 3 (linV l m r g b))) ∧ Below w.heap.size w w' := by
  have HAT : Hid (∀ x w', Below w.heap.size w w' → Calls Try.prog 70 #[.slice A l.length c, .int .i64 x] w' fun e w'' => e = .returned (.int .i64 (atK l x)) ∧ Below w'.heap.size w' w'') := fun x w' hb => at_any A c l x w' (Kd.C_below hr hb) hc
  go_enter Try.func37, Try.ntmps37
  go_upto_region 1 with fail
  have h0 : holdsC (((w.alloc (.cells (profC nm (.slice A l.length c) m) 25)).alloc (.cells (pixC r g b a) 35)).alloc (.cells #[.int .i64 0, .int .i64 0, .int .i64 0] 47)) w.heap.size 25 (profC nm (.slice A l.length c) m) := (((show holdsC (w.alloc (.cells (profC nm (.slice A l.length c) m) 25)) w.heap.size 25 (profC nm (.slice A l.length c) m) from heap_alloc_new _ _)).alloc _).alloc _
  have h1 : holdsC (((w.alloc (.cells (profC nm (.slice A l.length c) m) 25)).alloc (.cells (pixC r g b a) 35)).alloc (.cells #[.int .i64 0, .int .i64 0, .int .i64 0] 47)) (w.heap.size + 1) 35 (pixC r g b a) := by
    have : holdsC ((w.alloc (.cells (profC nm (.slice A l.length c) m) 25)).alloc (.cells (pixC r g b a) 35)) (w.alloc (.cells (profC nm (.slice A l.length c) m) 25)).heap.size 35 (pixC r g b a) := heap_alloc_new _ _
    have := this.alloc (.cells #[.int .i64 0, .int .i64 0, .int .i64 0] 47)
    simpa using this
  have h2 : holdsC (((w.alloc (.cells (profC nm (.slice A l.length c) m) 25)).alloc (.cells (pixC r g b a) 35)).alloc (.cells #[.int .i64 0, .int .i64 0, .int .i64 0] 47)) (w.heap.size + 1 + 1) 47 #[.int .i64 0, .int .i64 0, .int .i64 0] := by
    have : holdsC (((w.alloc (.cells (profC nm (.slice A l.length c) m) 25)).alloc (.cells (pixC r g b a) 35)).alloc (.cells #[.int .i64 0, .int .i64 0, .int .i64 0] 47)) ((w.alloc (.cells (profC nm (.slice A l.length c) m) 25)).alloc (.cells (pixC r g b a) 35)).heap.size 47 #[.int .i64 0, .int .i64 0, .int .i64 0] := heap_alloc_new _ _
    simpa using this
  have hb : Below w.heap.size w (((w.alloc (.cells (profC nm (.slice A l.length c) m) 25)).alloc (.cells (pixC r g b a) 35)).alloc (.cells #[.int .i64 0, .int .i64 0, .int .i64 0] 47)) := (((Below.refl _ _).alloc (Nat.le_refl _) _).alloc (by simp) _).alloc (by simp; omega) _
  have p0 := h1.cell 0 (.int .i64 r) rfl
  have p1 := h1.cell 1 (.int .i64 g) rfl
  have p2 := h1.cell 2 (.int .i64 b) rfl
  have p3 := h1.cell 3 (.int .i64 a) rfl
  generalize (((w.alloc (.cells (profC nm (.slice A l.length c) m) 25)).alloc (.cells (pixC r g b a) 35)).alloc (.cells #[.int .i64 0, .int .i64 0, .int .i64 0] 47)) = wc at *
  generalize hB : w.heap.size = B at *
  have HB := Lib.hid hB
  clear hB
  go_wp2_with fail
  clear p0 p1 p2 p3
  have HB1 := Lib.hid (limit_any r g b a)
  refine (HB1.out _).mono ?_; rintro e w1 ⟨rfl, b1⟩
  have g0 := h0.kept b1 h0.lt
  have g1 := h1.kept b1 h1.lt
  have g2 := h2.kept b1 h2.lt
  have gb := hb.trans (b1.mono (by rw [← HB.out]; exact hb.size))
  clear h0 h1 h2 hb b1 HB1
  have k1 := holdsC_row g1 (pixC (lim r) (lim g) (lim b) (lim a))
  have k0 := g0.setRowOther (g' := B + 1) (by omega) (pixC (lim r) (lim g) (lim b) (lim a))
  have k2 := g2.setRowOther (g' := B + 1) (by omega) (pixC (lim r) (lim g) (lim b) (lim a))
  have kb := below_setRow gb (show B ≤ B + 1 by omega) (pixC (lim r) (lim g) (lim b) (lim a))
  go_upto_region 2 with (first | (refine wpList_store_row rfl 35 (.tmp 3) (.tmp 6) rfl (B + 1) (pixC (lim r) (lim g) (lim b) (lim a)) rfl rfl 35 _ g1 (by kernel_rfl) rfl (by kernel_rfl) ?_))
  clear g0 g1 g2 gb
  generalize w1.setRow (B + 1) (pixC (lim r) (lim g) (lim b) (lim a)) = w2 at *
  have HK := Lib.hid kb
  clear kb
  refine start_ (n := 20) (S := fun w' => holdsC w' B 25 (profC nm (.slice A l.length c) m) ∧ holdsC w' (B + 1) 35 (pixC (lim r) (lim g) (lim b) (lim a)) ∧ holdsC w' (B + 1 + 1) 47 #[.int .i64 0, .int .i64 0, .int .i64 0]) (ds := [19]) #[false, false, false, false, false, false, false, false, false, false, false, false, false, false, false, false, false, false, false, false] (by kernel_rfl) rfl rfl ⟨k0, k1, k2⟩ (fun hHeld => ?_)
  have HK := Lib.hid HK.out.drew
  refine pure_ (i := 0) (N := some 7) (v := ?_) (a' := ?_) #[true, false, false, false, false, false, false, false, false, false, false, false, false, false, false, false, false, false, false, false] rfl rfl (by kernel_rfl) (fun _ _ _ h => h) (Or.inl ⟨by rfl, ?_⟩) ?_ ?_
  rotate_left
  · intro w'
    go_simp
    with_reducible rfl
  rotate_left
  · simp only [Act.put, List.setIfInBounds_toArray, List.set_cons_zero, List.set_cons_succ]
    rfl
  refine take_ (i := 1) (N := some 8) (v := .agg (arrN 9 m)) (a' := ?_) #[true, true, false, false, false, false, false, false, false, false, false, false, false, false, false, false, false, false, false, false] rfl rfl (by kernel_rfl) (fun _ _ _ h => h) (Or.inl ⟨by rfl, fun w' s => exec_loadM rfl rfl (show holdsP w' B _ nm (.slice A l.length c) m from s.1)⟩) hHeld ?_ ?_
  rotate_left
  · simp only [Act.put, List.setIfInBounds_toArray, List.set_cons_zero, List.set_cons_succ]
    rfl
  refine pure_ (i := 2) (N := some 9) (v := ?_) (a' := ?_) #[true, true, true, false, false, false, false, false, false, false, false, false, false, false, false, false, false, false, false, false] rfl rfl (by kernel_rfl) (fun _ _ _ h => h) (Or.inl ⟨by rfl, ?_⟩) ?_ ?_
  rotate_left
  · intro w'
    go_simp
    with_reducible rfl
  rotate_left
  · simp only [Act.put, List.setIfInBounds_toArray, List.set_cons_zero, List.set_cons_succ]
    rfl
  refine take_ (i := 3) (N := some 10) (v := ?_) (a' := ?_) #[true, true, true, true, false, false, false, false, false, false, false, false, false, false, false, false, false, false, false, false] rfl rfl (by kernel_rfl) (fun _ _ _ h => h) (Or.inl ⟨by rfl, ?_⟩) hHeld ?_ ?_
  rotate_left
  · rintro w' ⟨s0, s1, s2⟩
    have c1 := holdsP.c1 (show holdsP w' B _ nm (.slice A l.length c) m from s0)
    go_simp
    with_reducible rfl
  rotate_left
  · simp only [Act.put, List.setIfInBounds_toArray, List.set_cons_zero, List.set_cons_succ]
    rfl
  refine pure_ (i := 4) (N := some 11) (v := ?_) (a' := ?_) #[true, true, true, true, true, false, false, false, false, false, false, false, false, false, false, false, false, false, false, false] rfl rfl (by kernel_rfl) (fun _ _ _ h => h) (Or.inl ⟨by rfl, ?_⟩) ?_ ?_
  rotate_left
  · intro w'
    go_simp
    with_reducible rfl
  rotate_left
  · simp only [Act.put, List.setIfInBounds_toArray, List.set_cons_zero, List.set_cons_succ]
    rfl
  refine take_ (i := 5) (N := some 12) (v := ?_) (a' := ?_) #[true, true, true, true, true, true, false, false, false, false, false, false, false, false, false, false, false, false, false, false] rfl rfl (by kernel_rfl) (fun _ _ _ h => h) (Or.inl ⟨by rfl, ?_⟩) hHeld ?_ ?_
  rotate_left
  · rintro w' ⟨s0, s1, s2⟩
    have c1 := s1.cell 0 (.int .i64 (lim r)) rfl
    go_simp
    with_reducible rfl
  rotate_left
  · simp only [Act.put, List.setIfInBounds_toArray, List.set_cons_zero, List.set_cons_succ]
    rfl
  refine pure_ (i := 7) (N := some 14) (v := ?_) (a' := ?_) #[true, true, true, true, true, true, false, true, false, false, false, false, false, false, false, false, false, false, false, false] rfl rfl (by kernel_rfl) (fun _ _ _ h => h) (Or.inl ⟨by rfl, ?_⟩) ?_ ?_
  rotate_left
  · intro w'
    go_simp
    with_reducible rfl
  rotate_left
  · simp only [Act.put, List.setIfInBounds_toArray, List.set_cons_zero, List.set_cons_succ]
    rfl
  refine take_ (i := 8) (N := some 15) (v := ?_) (a' := ?_) #[true, true, true, true, true, true, false, true, true, false, false, false, false, false, false, false, false, false, false, false] rfl rfl (by kernel_rfl) (fun _ _ _ h => h) (Or.inl ⟨by rfl, ?_⟩) hHeld ?_ ?_
  rotate_left
  · rintro w' ⟨s0, s1, s2⟩
    have c1 := holdsP.c1 (show holdsP w' B _ nm (.slice A l.length c) m from s0)
    go_simp
    with_reducible rfl
  rotate_left
  · simp only [Act.put, List.setIfInBounds_toArray, List.set_cons_zero, List.set_cons_succ]
    rfl
  refine pure_ (i := 9) (N := some 16) (v := ?_) (a' := ?_) #[true, true, true, true, true, true, false, true, true, true, false, false, false, false, false, false, false, false, false, false] rfl rfl (by kernel_rfl) (fun _ _ _ h => h) (Or.inl ⟨by rfl, ?_⟩) ?_ ?_
  rotate_left
  · intro w'
    go_simp
    with_reducible rfl
  rotate_left
  · simp only [Act.put, List.setIfInBounds_toArray, List.set_cons_zero, List.set_cons_succ]
    rfl
  refine take_ (i := 10) (N := some 17) (v := ?_) (a' := ?_) #[true, true, true, true, true, true, false, true, true, true, true, false, false, false, false, false, false, false, false, false] rfl rfl (by kernel_rfl) (fun _ _ _ h => h) (Or.inl ⟨by rfl, ?_⟩) hHeld ?_ ?_
  rotate_left
  · rintro w' ⟨s0, s1, s2⟩
    have c1 := s1.cell 1 (.int .i64 (lim g)) rfl
    go_simp
    with_reducible rfl
  rotate_left
  · simp only [Act.put, List.setIfInBounds_toArray, List.set_cons_zero, List.set_cons_succ]
    rfl
  refine pure_ (i := 12) (N := some 19) (v := ?_) (a' := ?_) #[true, true, true, true, true, true, false, true, true, true, true, false, true, false, false, false, false, false, false, false] rfl rfl (by kernel_rfl) (fun _ _ _ h => h) (Or.inl ⟨by rfl, ?_⟩) ?_ ?_
  rotate_left
  · intro w'
    go_simp
    with_reducible rfl
  rotate_left
  · simp only [Act.put, List.setIfInBounds_toArray, List.set_cons_zero, List.set_cons_succ]
    rfl
  refine take_ (i := 13) (N := some 20) (v := ?_) (a' := ?_) #[true, true, true, true, true, true, false, true, true, true, true, false, true, true, false, false, false, false, false, false] rfl rfl (by kernel_rfl) (fun _ _ _ h => h) (Or.inl ⟨by rfl, ?_⟩) hHeld ?_ ?_
  rotate_left
  · rintro w' ⟨s0, s1, s2⟩
    have c1 := holdsP.c1 (show holdsP w' B _ nm (.slice A l.length c) m from s0)
    go_simp
    with_reducible rfl
  rotate_left
  · simp only [Act.put, List.setIfInBounds_toArray, List.set_cons_zero, List.set_cons_succ]
    rfl
  refine pure_ (i := 14) (N := some 21) (v := ?_) (a' := ?_) #[true, true, true, true, true, true, false, true, true, true, true, false, true, true, true, false, false, false, false, false] rfl rfl (by kernel_rfl) (fun _ _ _ h => h) (Or.inl ⟨by rfl, ?_⟩) ?_ ?_
  rotate_left
  · intro w'
    go_simp
    with_reducible rfl
  rotate_left
  · simp only [Act.put, List.setIfInBounds_toArray, List.set_cons_zero, List.set_cons_succ]
    rfl
  refine take_ (i := 15) (N := some 22) (v := ?_) (a' := ?_) #[true, true, true, true, true, true, false, true, true, true, true, false, true, true, true, true, false, false, false, false] rfl rfl (by kernel_rfl) (fun _ _ _ h => h) (Or.inl ⟨by rfl, ?_⟩) hHeld ?_ ?_
  rotate_left
  · rintro w' ⟨s0, s1, s2⟩
    have c1 := s1.cell 2 (.int .i64 (lim b)) rfl
    go_simp
    with_reducible rfl
  rotate_left
  · simp only [Act.put, List.setIfInBounds_toArray, List.set_cons_zero, List.set_cons_succ]
    rfl
  refine one_ (i := 6) (N := some 13) #[true, true, true, true, true, true, true, true, true, true, true, false, true, true, true, true, false, false, false, false] rfl rfl (by kernel_rfl) (by decide) (fun K hK => ?_)
  refine goes_ Try.func70 (by kernel_rfl) rfl #[.slice A l.length c, .int .i64 (lim r)] (by rfl) rfl rfl (by simp only [List.map_toArray, List.map_cons, List.map_nil]; rfl) ?_
  refine (HAT.out (lim r) _ HK.out).mono ?_
  rintro e W1 ⟨rfl, b1⟩
  refine ⟨_, rfl, ?_⟩
  have HK := Lib.hid (HK.out.trans (b1.mono (Nat.le_trans (Nat.le_of_eq HB.out.symm) HK.out.size)))
  have q0 := hHeld.1.kept b1 hHeld.1.lt
  have q1 := hHeld.2.1.kept b1 hHeld.2.1.lt
  have q2 := hHeld.2.2.kept b1 hHeld.2.2.lt
  refine hK.out _ _ ⟨q0, q1, q2⟩ (fun hHeld => ?_)
  clear hK K b1
  refine norm_ (a' := ?_) ?_ ?_
  rotate_left
  · show Act.put _ (some 13) _ = _
    simp only [Act.put, List.setIfInBounds_toArray, List.set_cons_zero, List.set_cons_succ]
    rfl
  refine one_ (i := 11) (N := some 18) #[true, true, true, true, true, true, true, true, true, true, true, true, true, true, true, true, false, false, false, false] rfl rfl (by kernel_rfl) (by decide) (fun K hK => ?_)
  refine goes_ Try.func70 (by kernel_rfl) rfl #[.slice A l.length c, .int .i64 (lim g)] (by rfl) rfl rfl (by simp only [List.map_toArray, List.map_cons, List.map_nil]; rfl) ?_
  refine (HAT.out (lim g) _ HK.out).mono ?_
  rintro e W1 ⟨rfl, b1⟩
  refine ⟨_, rfl, ?_⟩
  have HK := Lib.hid (HK.out.trans (b1.mono (Nat.le_trans (Nat.le_of_eq HB.out.symm) HK.out.size)))
  have q0 := hHeld.1.kept b1 hHeld.1.lt
  have q1 := hHeld.2.1.kept b1 hHeld.2.1.lt
  have q2 := hHeld.2.2.kept b1 hHeld.2.2.lt
  refine hK.out _ _ ⟨q0, q1, q2⟩ (fun hHeld => ?_)
  clear hK K b1
  refine norm_ (a' := ?_) ?_ ?_
  rotate_left
  · show Act.put _ (some 18) _ = _
    simp only [Act.put, List.setIfInBounds_toArray, List.set_cons_zero, List.set_cons_succ]
    rfl
  refine one_ (i := 16) (N := some 23) #[true, true, true, true, true, true, true, true, true, true, true, true, true, true, true, true, true, false, false, false] rfl rfl (by kernel_rfl) (by decide) (fun K hK => ?_)
  refine goes_ Try.func70 (by kernel_rfl) rfl #[.slice A l.length c, .int .i64 (lim b)] (by rfl) rfl rfl (by simp only [List.map_toArray, List.map_cons, List.map_nil]; rfl) ?_
  refine (HAT.out (lim b) _ HK.out).mono ?_
  rintro e W1 ⟨rfl, b1⟩
  refine ⟨_, rfl, ?_⟩
  have HK := Lib.hid (HK.out.trans (b1.mono (Nat.le_trans (Nat.le_of_eq HB.out.symm) HK.out.size)))
  have q0 := hHeld.1.kept b1 hHeld.1.lt
  have q1 := hHeld.2.1.kept b1 hHeld.2.1.lt
  have q2 := hHeld.2.2.kept b1 hHeld.2.2.lt
  refine hK.out _ _ ⟨q0, q1, q2⟩ (fun hHeld => ?_)
  clear hK K b1
  refine norm_ (a' := ?_) ?_ ?_
  rotate_left
  · show Act.put _ (some 23) _ = _
    simp only [Act.put, List.setIfInBounds_toArray, List.set_cons_zero, List.set_cons_succ]
    rfl
  refine pure_ (i := 17) (N := some 24) (v := .agg (arrN 3 (fun k => atK l (lim (([r, g, b] : List Int).getD k 0))))) (a' := ?_) #[true, true, true, true, true, true, true, true, true, true, true, true, true, true, true, true, true, true, false, false] rfl rfl (by kernel_rfl) (fun _ _ _ h => h) (Or.inl ⟨by rfl, fun w' => exec_build rfl (by kernel_rfl)⟩) ?_ ?_
  rotate_left
  · simp only [Act.put, List.setIfInBounds_toArray, List.set_cons_zero, List.set_cons_succ]
    rfl
  refine one_ (i := 18) (N := some 25) #[true, true, true, true, true, true, true, true, true, true, true, true, true, true, true, true, true, true, true, false] rfl rfl (by kernel_rfl) (by decide) (fun K hK => ?_)
  refine goes_ Try.func69 (by kernel_rfl) rfl #[.agg (arrN 9 m), .agg (arrN 3 (fun k => atK l (lim (([r, g, b] : List Int).getD k 0))))] (by rfl) rfl rfl (by simp only [List.map_toArray, List.map_cons, List.map_nil]; rfl) ?_
  refine (apply_any m (fun k => atK l (lim (([r, g, b] : List Int).getD k 0))) _).mono ?_
  rintro e W1 ⟨rfl, b1⟩
  refine ⟨_, rfl, ?_⟩
  have HK := Lib.hid (HK.out.trans (b1.mono (Nat.le_trans (Nat.le_of_eq HB.out.symm) HK.out.size)))
  have q0 := hHeld.1.kept b1 hHeld.1.lt
  have q1 := hHeld.2.1.kept b1 hHeld.2.1.lt
  have q2 := hHeld.2.2.kept b1 hHeld.2.2.lt
  refine hK.out _ _ ⟨q0, q1, q2⟩ (fun hHeld => ?_)
  clear hK K b1
  refine norm_ (a' := ?_) ?_ ?_
  rotate_left
  · show Act.put _ (some 25) _ = _
    simp only [Act.put, List.setIfInBounds_toArray, List.set_cons_zero, List.set_cons_succ]
    rfl
  refine last_ (i := 19) (N := none) #[true, true, true, true, true, true, true, true, true, true, true, true, true, true, true, true, true, true, true, true] rfl rfl (by kernel_rfl) (by decide) (fun K hK => ?_)
  have q3 := holdsC_row hHeld.2.2 (arrN 3 (linV l m r g b))
  refine skip_ (by rfl) rfl (exec_store3 (m := linV l m r g b) rfl rfl rfl hHeld.2.2 rfl) ?_
  refine hK.out _ _ ?_
  clear hK K
  refine done_ (by kernel_rfl) ?_
  go_wp2_with fail
  refine bodyPost_ret (v := .agg (arrN 3 (linV l m r g b))) (results_cell_row rfl _ _ (B + 1 + 1) 47 _ _ _ rfl q3 Try.underlying47 rfl (by rw [arrN_size]; exact hi3)) rfl ?_
  exact ⟨rfl, by rw [HB.out]; exact below_setRow HK.out (by omega) _⟩
end Go.Proofs.Ytlpfepcmpccbeaa.Pf
/-
  profile.Linear.
-/
namespace Go.Proofs.Ytlpfepcmpccbeaa.Pf
open Go.RowKit Go.Proofs.Ytlpfepcmpccbeaa.NM Go.Proofs.Ytlpfepcmpccbeaa.Cv Go.Proofs.Ytlpfepcmpccbeaa.Nm9 Go.Proofs.Ytlpfepcmpccbeaa.Mx Go.Proofs.Ytlpfepcmpccbeaa.PNum Go.Proofs.YtlpfepcmpccbeaaW.PrintWords Go.Proofs.YtlpfepcmpccbeaaW.PrintMore Go.Proofs.YtlpfepcmpccbeaaW.PrintLast
set_option linter.unusedVariables false
def linP (nm : ByteArray) (l : List Kn) (m : Nat → Int) (r g b : Int) : Nat → Int := if profCheck nm l m = 0 then linV l m r g b else fun _ => 0
theorem profC_info (nm : ByteArray) (s : Value) (m : Nat → Int) : (Try.prog.info? 25).map (·.size) = some (profC nm s m).size := by
  rw [show (profC nm s m).size = 11 by unfold profC; simp [arrN_size]]
  kernel_rfl
set_option maxRecDepth 20000 in
set_option maxHeartbeats 2000000 in
theorem pLinear_any (nm : ByteArray) (A : Option Addr) (c : Nat) (l : List Kn) (m : Nat → Int) (r g b a : Int) (w : World) (hs : nm.size ≤ 140737488355232) (hr : Kd.C k72 w A l.length l) (hc : l.length ≤ c) :
    Calls Try.prog 26 #[.agg (profC nm (.slice A l.length c) m), .agg (pixC r g b a)] w fun e w' => e = .returned (.agg (arrN 3 (linP nm l m r g b))) ∧ Below w.heap.size w w' := by
  have HCK : Hid (∀ w', Below w.heap.size w w' → Calls Try.prog 22 #[.agg (profC nm (.slice A l.length c) m)] w' fun e w'' => e = .returned (.int .i64 (profCheck nm l m)) ∧ Below w'.heap.size w' w'') := fun w' hb => pcheck_any nm A c l m w' hs (Kd.C_below hr hb) hc
  have HL : Hid (∀ w', Below w.heap.size w w' → Calls Try.prog 37 #[.agg (profC nm (.slice A l.length c) m), .agg (pixC r g b a)] w' fun e w'' => e = .returned (.agg (arrN 3 (linV l m r g b))) ∧ Below w'.heap.size w' w'') := fun w' hb => plinear_any nm A c l m r g b a w' (Kd.C_below hr hb) hc
  have HP : Hid (linP nm l m r g b = if profCheck nm l m = 0 then linV l m r g b else fun _ => 0) := rfl
  generalize profCheck nm l m = pc at *
  go_enter Try.func26, Try.ntmps26
  go_upto_region 1 with fail
  have h0 : holdsC (((w.alloc (.cells (profC nm (.slice A l.length c) m) 25)).alloc (.cells (pixC r g b a) 35)).alloc (.cells #[.int .i64 0, .int .i64 0, .int .i64 0] 47)) w.heap.size 25 (profC nm (.slice A l.length c) m) := (((show holdsC (w.alloc (.cells (profC nm (.slice A l.length c) m) 25)) w.heap.size 25 (profC nm (.slice A l.length c) m) from heap_alloc_new _ _)).alloc _).alloc _
  have h1 : holdsC (((w.alloc (.cells (profC nm (.slice A l.length c) m) 25)).alloc (.cells (pixC r g b a) 35)).alloc (.cells #[.int .i64 0, .int .i64 0, .int .i64 0] 47)) (w.heap.size + 1) 35 (pixC r g b a) := by
    have : holdsC ((w.alloc (.cells (profC nm (.slice A l.length c) m) 25)).alloc (.cells (pixC r g b a) 35)) (w.alloc (.cells (profC nm (.slice A l.length c) m) 25)).heap.size 35 (pixC r g b a) := heap_alloc_new _ _
    have := this.alloc (.cells #[.int .i64 0, .int .i64 0, .int .i64 0] 47)
    simpa using this
  have h2 : holdsC (((w.alloc (.cells (profC nm (.slice A l.length c) m) 25)).alloc (.cells (pixC r g b a) 35)).alloc (.cells #[.int .i64 0, .int .i64 0, .int .i64 0] 47)) (w.heap.size + 1 + 1) 47 #[.int .i64 0, .int .i64 0, .int .i64 0] := by
    have : holdsC (((w.alloc (.cells (profC nm (.slice A l.length c) m) 25)).alloc (.cells (pixC r g b a) 35)).alloc (.cells #[.int .i64 0, .int .i64 0, .int .i64 0] 47)) ((w.alloc (.cells (profC nm (.slice A l.length c) m) 25)).alloc (.cells (pixC r g b a) 35)).heap.size 47 #[.int .i64 0, .int .i64 0, .int .i64 0] := heap_alloc_new _ _
    simpa using this
  have hb : Below w.heap.size w (((w.alloc (.cells (profC nm (.slice A l.length c) m) 25)).alloc (.cells (pixC r g b a) 35)).alloc (.cells #[.int .i64 0, .int .i64 0, .int .i64 0] 47)) := (((Below.refl _ _).alloc (Nat.le_refl _) _).alloc (by simp) _).alloc (by simp; omega) _
  generalize (((w.alloc (.cells (profC nm (.slice A l.length c) m) 25)).alloc (.cells (pixC r g b a) 35)).alloc (.cells #[.int .i64 0, .int .i64 0, .int .i64 0] 47)) = wc at *
  generalize hB : w.heap.size = B at *
  have HB := Lib.hid hB
  clear hB
  go_wp2_with (refine wpList_load_row rfl 25 (.tmp 2) rfl B rfl 25 (profC nm (.slice A l.length c) m) (0, 0) _ h0 Try.underlying25 rfl (profC_info _ _ _) ?_)
  refine (HCK.out _ hb).mono ?_; rintro e w1 ⟨rfl, b1⟩
  have g0 := h0.kept b1 h0.lt
  have g1 := h1.kept b1 h1.lt
  have g2 := h2.kept b1 h2.lt
  have gb := hb.trans (b1.mono (Nat.le_trans (Nat.le_of_eq HB.out.symm) hb.size))
  clear h0 h1 h2 hb b1
  by_cases hpc : pc = 0
  · subst hpc
    have HP1 : Hid (linP nm l m r g b = linV l m r g b) := by show _ = _; rw [HP.out, if_pos rfl]
    go_wp2_with (first
      | (refine wpList_load_row rfl 25 (.tmp 2) rfl B rfl 25 (profC nm (.slice A l.length c) m) (0, 0) _ g0 Try.underlying25 rfl (profC_info _ _ _) ?_)
      | (refine wpList_load_row rfl 35 (.tmp 3) rfl (B + 1) rfl 35 (pixC r g b a) (0, 0) _ g1 Try.underlying35 rfl (by kernel_rfl) ?_))
    refine (HL.out _ gb).mono ?_; rintro e w2 ⟨rfl, b2⟩
    have k2 := g2.kept b2 g2.lt
    have kb := gb.trans (b2.mono (Nat.le_trans (Nat.le_of_eq HB.out.symm) gb.size))
    clear g0 g1 g2 gb b2
    go_wp2_with (refine wpList_store_arr rfl 47 (.tmp 4) (.tmp 11) rfl rfl rfl k2 rfl hi3 ?_)
    refine bodyPost_ret (v := .agg (arrN 3 (linV l m r g b))) (results_cell_row rfl _ _ (B + 1 + 1) 47 _ _ _ rfl (holdsC_row k2 _) Try.underlying47 rfl (by rw [arrN_size]; exact hi3)) rfl ?_
    exact ⟨by rw [HP1.out], by rw [HB.out]; exact below_setRow kb (by omega) _⟩
  · have hne : (pc == 0) = false := by simpa using hpc
    have HP1 : Hid (linP nm l m r g b = fun _ => 0) := by show _ = _; rw [HP.out, if_neg hpc]
    go_wp2_with (first
      | (refine wpList_build_as rfl 47 _ rfl (arrN 3 fun _ => 0) (by kernel_rfl) ?_)
      | (refine wpList_store_arr rfl 47 (.tmp 4) (.tmp 8) rfl rfl rfl g2 rfl hi3 ?_))
    refine bodyPost_ret (v := .agg (arrN 3 fun _ => 0)) (results_cell_row rfl _ _ (B + 1 + 1) 47 _ _ _ rfl (holdsC_row g2 _) Try.underlying47 rfl (by rw [arrN_size]; exact hi3)) rfl ?_
    exact ⟨by rw [HP1.out], by rw [HB.out]; exact below_setRow gb (by omega) _⟩
end Go.Proofs.Ytlpfepcmpccbeaa.Pf
/-
  The reference's Linear.
-/
namespace Go.Proofs.Ytlpfepcmpccbeaa.Pf
open Go.RowKit Go.Proofs.Ytlpfepcmpccbeaa.NM Go.Proofs.Ytlpfepcmpccbeaa.Cv Go.Proofs.Ytlpfepcmpccbeaa.Nm9 Go.Proofs.Ytlpfepcmpccbeaa.Mx Go.Proofs.Ytlpfepcmpccbeaa.PNum Go.Proofs.YtlpfepcmpccbeaaW.PrintWords Go.Proofs.YtlpfepcmpccbeaaW.PrintMore Go.Proofs.YtlpfepcmpccbeaaW.PrintLast
set_option linter.unusedVariables false
set_option maxRecDepth 20000 in
set_option maxHeartbeats 2000000 in
theorem rLinear_any (nm : ByteArray) (A : Option Addr) (c : Nat) (l : List Kn) (m : Nat → Int) (r g b a : Int) (w : World) (hs : nm.size ≤ 140737488355232) (hr : Kd.C k72 w A l.length l) (hc : l.length ≤ c) :
    Calls Try.prog 27 #[.agg (profC nm (.slice A l.length c) m), .agg (pixC r g b a)] w fun e w' => e = .returned (.agg (arrN 3 (linP nm l m r g b))) ∧ Below w.heap.size w w' := by
  have HCK : Hid (∀ w', Below w.heap.size w w' → Calls Try.prog 23 #[.agg (profC nm (.slice A l.length c) m)] w' fun e w'' => e = .returned (.int .i64 (profCheck nm l m)) ∧ Below w'.heap.size w' w'') := fun w' hb => rpcheck_any nm A c l m w' hs (Kd.C_below hr hb) hc
  have HAT : Hid (∀ x w', Below w.heap.size w w' → Calls Try.prog 59 #[.slice A l.length c, .int .i64 x] w' fun e w'' => e = .returned (.int .i64 (atK l x)) ∧ Below w'.heap.size w' w'') := fun x w' hb => rat_any A c l x w' (Kd.C_below hr hb) hc
  have HP : Hid (linP nm l m r g b = if profCheck nm l m = 0 then linV l m r g b else fun _ => 0) := rfl
  generalize profCheck nm l m = pc at *
  go_enter Try.func27, Try.ntmps27
  go_upto_region 1 with fail
  have h0 : holdsC (((w.alloc (.cells (profC nm (.slice A l.length c) m) 25)).alloc (.cells (pixC r g b a) 35)).alloc (.cells #[.int .i64 0, .int .i64 0, .int .i64 0] 47)) w.heap.size 25 (profC nm (.slice A l.length c) m) := (((show holdsC (w.alloc (.cells (profC nm (.slice A l.length c) m) 25)) w.heap.size 25 (profC nm (.slice A l.length c) m) from heap_alloc_new _ _)).alloc _).alloc _
  have h1 : holdsC (((w.alloc (.cells (profC nm (.slice A l.length c) m) 25)).alloc (.cells (pixC r g b a) 35)).alloc (.cells #[.int .i64 0, .int .i64 0, .int .i64 0] 47)) (w.heap.size + 1) 35 (pixC r g b a) := by
    have : holdsC ((w.alloc (.cells (profC nm (.slice A l.length c) m) 25)).alloc (.cells (pixC r g b a) 35)) (w.alloc (.cells (profC nm (.slice A l.length c) m) 25)).heap.size 35 (pixC r g b a) := heap_alloc_new _ _
    have := this.alloc (.cells #[.int .i64 0, .int .i64 0, .int .i64 0] 47)
    simpa using this
  have h2 : holdsC (((w.alloc (.cells (profC nm (.slice A l.length c) m) 25)).alloc (.cells (pixC r g b a) 35)).alloc (.cells #[.int .i64 0, .int .i64 0, .int .i64 0] 47)) (w.heap.size + 1 + 1) 47 #[.int .i64 0, .int .i64 0, .int .i64 0] := by
    have : holdsC (((w.alloc (.cells (profC nm (.slice A l.length c) m) 25)).alloc (.cells (pixC r g b a) 35)).alloc (.cells #[.int .i64 0, .int .i64 0, .int .i64 0] 47)) ((w.alloc (.cells (profC nm (.slice A l.length c) m) 25)).alloc (.cells (pixC r g b a) 35)).heap.size 47 #[.int .i64 0, .int .i64 0, .int .i64 0] := heap_alloc_new _ _
    simpa using this
  have hb : Below w.heap.size w (((w.alloc (.cells (profC nm (.slice A l.length c) m) 25)).alloc (.cells (pixC r g b a) 35)).alloc (.cells #[.int .i64 0, .int .i64 0, .int .i64 0] 47)) := (((Below.refl _ _).alloc (Nat.le_refl _) _).alloc (by simp) _).alloc (by simp; omega) _
  generalize (((w.alloc (.cells (profC nm (.slice A l.length c) m) 25)).alloc (.cells (pixC r g b a) 35)).alloc (.cells #[.int .i64 0, .int .i64 0, .int .i64 0] 47)) = wc at *
  generalize hB : w.heap.size = B at *
  have HB := Lib.hid hB
  clear hB
  go_wp2_with (refine wpList_load_row rfl 25 (.tmp 2) rfl B rfl 25 (profC nm (.slice A l.length c) m) (0, 0) _ h0 Try.underlying25 rfl (profC_info _ _ _) ?_)
  refine (HCK.out _ hb).mono ?_; rintro e w1 ⟨rfl, b1⟩
  have g0 := h0.kept b1 h0.lt
  have g1 := h1.kept b1 h1.lt
  have g2 := h2.kept b1 h2.lt
  have gb := hb.trans (b1.mono (Nat.le_trans (Nat.le_of_eq HB.out.symm) hb.size))
  clear h0 h1 h2 hb b1
  by_cases hpc : pc = 0
  · subst hpc
    have HP1 : Hid (linP nm l m r g b = linV l m r g b) := by show _ = _; rw [HP.out, if_pos rfl]
    clear HCK HP
    have p0 := g1.cell 0 (.int .i64 r) rfl
    have p1 := g1.cell 1 (.int .i64 g) rfl
    have p2 := g1.cell 2 (.int .i64 b) rfl
    have p3 := g1.cell 3 (.int .i64 a) rfl
    go_wp2_with fail
    clear p0 p1 p2 p3
    have HB1 := Lib.hid (rlimit_any r g b a)
    refine (HB1.out _).mono ?_; rintro e w2 ⟨rfl, b1⟩
    have h0 := g0.kept b1 g0.lt
    have h1 := g1.kept b1 g1.lt
    have h2 := g2.kept b1 g2.lt
    have hb := gb.trans (b1.mono (Nat.le_trans (Nat.le_of_eq HB.out.symm) gb.size))
    clear g0 g1 g2 gb b1 HB1
    have k1 := holdsC_row h1 (pixC (lim r) (lim g) (lim b) (lim a))
    have k0 := h0.setRowOther (g' := B + 1) (by omega) (pixC (lim r) (lim g) (lim b) (lim a))
    have k2 := h2.setRowOther (g' := B + 1) (by omega) (pixC (lim r) (lim g) (lim b) (lim a))
    have kb := below_setRow hb (show B ≤ B + 1 by omega) (pixC (lim r) (lim g) (lim b) (lim a))
    go_upto_region 4 with (first | (refine wpList_store_row rfl 35 (.tmp 3) (.tmp 10) rfl (B + 1) (pixC (lim r) (lim g) (lim b) (lim a)) rfl rfl 35 _ h1 (by kernel_rfl) rfl (by kernel_rfl) ?_))
    clear h0 h1 h2 hb
    generalize w2.setRow (B + 1) (pixC (lim r) (lim g) (lim b) (lim a)) = w3 at *
    have HK := Lib.hid kb
    clear kb
    refine start_ (n := 20) (S := fun w' => holdsC w' B 25 (profC nm (.slice A l.length c) m) ∧ holdsC w' (B + 1) 35 (pixC (lim r) (lim g) (lim b) (lim a)) ∧ holdsC w' (B + 1 + 1) 47 #[.int .i64 0, .int .i64 0, .int .i64 0]) (ds := [19]) #[false, false, false, false, false, false, false, false, false, false, false, false, false, false, false, false, false, false, false, false] (by kernel_rfl) rfl rfl ⟨k0, k1, k2⟩ (fun hHeld => ?_)
    have HK := Lib.hid HK.out.drew
    refine pure_ (i := 0) (N := some 11) (v := ?_) (a' := ?_) #[true, false, false, false, false, false, false, false, false, false, false, false, false, false, false, false, false, false, false, false] rfl rfl (by kernel_rfl) (fun _ _ _ h => h) (Or.inl ⟨by rfl, ?_⟩) ?_ ?_
    rotate_left
    · intro w'
      go_simp
      with_reducible rfl
    rotate_left
    · simp only [Act.put, List.setIfInBounds_toArray, List.set_cons_zero, List.set_cons_succ]
      rfl
    refine take_ (i := 1) (N := some 12) (v := .agg (arrN 9 m)) (a' := ?_) #[true, true, false, false, false, false, false, false, false, false, false, false, false, false, false, false, false, false, false, false] rfl rfl (by kernel_rfl) (fun _ _ _ h => h) (Or.inl ⟨by rfl, fun w' s => exec_loadM rfl rfl (show holdsP w' B _ nm (.slice A l.length c) m from s.1)⟩) hHeld ?_ ?_
    rotate_left
    · simp only [Act.put, List.setIfInBounds_toArray, List.set_cons_zero, List.set_cons_succ]
      rfl
    refine pure_ (i := 2) (N := some 13) (v := ?_) (a' := ?_) #[true, true, true, false, false, false, false, false, false, false, false, false, false, false, false, false, false, false, false, false] rfl rfl (by kernel_rfl) (fun _ _ _ h => h) (Or.inl ⟨by rfl, ?_⟩) ?_ ?_
    rotate_left
    · intro w'
      go_simp
      with_reducible rfl
    rotate_left
    · simp only [Act.put, List.setIfInBounds_toArray, List.set_cons_zero, List.set_cons_succ]
      rfl
    refine take_ (i := 3) (N := some 14) (v := ?_) (a' := ?_) #[true, true, true, true, false, false, false, false, false, false, false, false, false, false, false, false, false, false, false, false] rfl rfl (by kernel_rfl) (fun _ _ _ h => h) (Or.inl ⟨by rfl, ?_⟩) hHeld ?_ ?_
    rotate_left
    · rintro w' ⟨s0, s1, s2⟩
      have c1 := holdsP.c1 (show holdsP w' B _ nm (.slice A l.length c) m from s0)
      go_simp
      with_reducible rfl
    rotate_left
    · simp only [Act.put, List.setIfInBounds_toArray, List.set_cons_zero, List.set_cons_succ]
      rfl
    refine pure_ (i := 4) (N := some 15) (v := ?_) (a' := ?_) #[true, true, true, true, true, false, false, false, false, false, false, false, false, false, false, false, false, false, false, false] rfl rfl (by kernel_rfl) (fun _ _ _ h => h) (Or.inl ⟨by rfl, ?_⟩) ?_ ?_
    rotate_left
    · intro w'
      go_simp
      with_reducible rfl
    rotate_left
    · simp only [Act.put, List.setIfInBounds_toArray, List.set_cons_zero, List.set_cons_succ]
      rfl
    refine take_ (i := 5) (N := some 16) (v := ?_) (a' := ?_) #[true, true, true, true, true, true, false, false, false, false, false, false, false, false, false, false, false, false, false, false] rfl rfl (by kernel_rfl) (fun _ _ _ h => h) (Or.inl ⟨by rfl, ?_⟩) hHeld ?_ ?_
    rotate_left
    · rintro w' ⟨s0, s1, s2⟩
      have c1 := s1.cell 0 (.int .i64 (lim r)) rfl
      go_simp
      with_reducible rfl
    rotate_left
    · simp only [Act.put, List.setIfInBounds_toArray, List.set_cons_zero, List.set_cons_succ]
      rfl
    refine pure_ (i := 7) (N := some 18) (v := ?_) (a' := ?_) #[true, true, true, true, true, true, false, true, false, false, false, false, false, false, false, false, false, false, false, false] rfl rfl (by kernel_rfl) (fun _ _ _ h => h) (Or.inl ⟨by rfl, ?_⟩) ?_ ?_
    rotate_left
    · intro w'
      go_simp
      with_reducible rfl
    rotate_left
    · simp only [Act.put, List.setIfInBounds_toArray, List.set_cons_zero, List.set_cons_succ]
      rfl
    refine take_ (i := 8) (N := some 19) (v := ?_) (a' := ?_) #[true, true, true, true, true, true, false, true, true, false, false, false, false, false, false, false, false, false, false, false] rfl rfl (by kernel_rfl) (fun _ _ _ h => h) (Or.inl ⟨by rfl, ?_⟩) hHeld ?_ ?_
    rotate_left
    · rintro w' ⟨s0, s1, s2⟩
      have c1 := holdsP.c1 (show holdsP w' B _ nm (.slice A l.length c) m from s0)
      go_simp
      with_reducible rfl
    rotate_left
    · simp only [Act.put, List.setIfInBounds_toArray, List.set_cons_zero, List.set_cons_succ]
      rfl
    refine pure_ (i := 9) (N := some 20) (v := ?_) (a' := ?_) #[true, true, true, true, true, true, false, true, true, true, false, false, false, false, false, false, false, false, false, false] rfl rfl (by kernel_rfl) (fun _ _ _ h => h) (Or.inl ⟨by rfl, ?_⟩) ?_ ?_
    rotate_left
    · intro w'
      go_simp
      with_reducible rfl
    rotate_left
    · simp only [Act.put, List.setIfInBounds_toArray, List.set_cons_zero, List.set_cons_succ]
      rfl
    refine take_ (i := 10) (N := some 21) (v := ?_) (a' := ?_) #[true, true, true, true, true, true, false, true, true, true, true, false, false, false, false, false, false, false, false, false] rfl rfl (by kernel_rfl) (fun _ _ _ h => h) (Or.inl ⟨by rfl, ?_⟩) hHeld ?_ ?_
    rotate_left
    · rintro w' ⟨s0, s1, s2⟩
      have c1 := s1.cell 1 (.int .i64 (lim g)) rfl
      go_simp
      with_reducible rfl
    rotate_left
    · simp only [Act.put, List.setIfInBounds_toArray, List.set_cons_zero, List.set_cons_succ]
      rfl
    refine pure_ (i := 12) (N := some 23) (v := ?_) (a' := ?_) #[true, true, true, true, true, true, false, true, true, true, true, false, true, false, false, false, false, false, false, false] rfl rfl (by kernel_rfl) (fun _ _ _ h => h) (Or.inl ⟨by rfl, ?_⟩) ?_ ?_
    rotate_left
    · intro w'
      go_simp
      with_reducible rfl
    rotate_left
    · simp only [Act.put, List.setIfInBounds_toArray, List.set_cons_zero, List.set_cons_succ]
      rfl
    refine take_ (i := 13) (N := some 24) (v := ?_) (a' := ?_) #[true, true, true, true, true, true, false, true, true, true, true, false, true, true, false, false, false, false, false, false] rfl rfl (by kernel_rfl) (fun _ _ _ h => h) (Or.inl ⟨by rfl, ?_⟩) hHeld ?_ ?_
    rotate_left
    · rintro w' ⟨s0, s1, s2⟩
      have c1 := holdsP.c1 (show holdsP w' B _ nm (.slice A l.length c) m from s0)
      go_simp
      with_reducible rfl
    rotate_left
    · simp only [Act.put, List.setIfInBounds_toArray, List.set_cons_zero, List.set_cons_succ]
      rfl
    refine pure_ (i := 14) (N := some 25) (v := ?_) (a' := ?_) #[true, true, true, true, true, true, false, true, true, true, true, false, true, true, true, false, false, false, false, false] rfl rfl (by kernel_rfl) (fun _ _ _ h => h) (Or.inl ⟨by rfl, ?_⟩) ?_ ?_
    rotate_left
    · intro w'
      go_simp
      with_reducible rfl
    rotate_left
    · simp only [Act.put, List.setIfInBounds_toArray, List.set_cons_zero, List.set_cons_succ]
      rfl
    refine take_ (i := 15) (N := some 26) (v := ?_) (a' := ?_) #[true, true, true, true, true, true, false, true, true, true, true, false, true, true, true, true, false, false, false, false] rfl rfl (by kernel_rfl) (fun _ _ _ h => h) (Or.inl ⟨by rfl, ?_⟩) hHeld ?_ ?_
    rotate_left
    · rintro w' ⟨s0, s1, s2⟩
      have c1 := s1.cell 2 (.int .i64 (lim b)) rfl
      go_simp
      with_reducible rfl
    rotate_left
    · simp only [Act.put, List.setIfInBounds_toArray, List.set_cons_zero, List.set_cons_succ]
      rfl
    refine one_ (i := 6) (N := some 17) #[true, true, true, true, true, true, true, true, true, true, true, false, true, true, true, true, false, false, false, false] rfl rfl (by kernel_rfl) (by decide) (fun K hK => ?_)
    refine goes_ Try.func59 (by kernel_rfl) rfl #[.slice A l.length c, .int .i64 (lim r)] (by rfl) rfl rfl (by simp only [List.map_toArray, List.map_cons, List.map_nil]; rfl) ?_
    refine (HAT.out (lim r) _ HK.out).mono ?_
    rintro e W1 ⟨rfl, b1⟩
    refine ⟨_, rfl, ?_⟩
    have HK := Lib.hid (HK.out.trans (b1.mono (Nat.le_trans (Nat.le_of_eq HB.out.symm) HK.out.size)))
    have q0 := hHeld.1.kept b1 hHeld.1.lt
    have q1 := hHeld.2.1.kept b1 hHeld.2.1.lt
    have q2 := hHeld.2.2.kept b1 hHeld.2.2.lt
    refine hK.out _ _ ⟨q0, q1, q2⟩ (fun hHeld => ?_)
    clear hK K b1
    refine norm_ (a' := ?_) ?_ ?_
    rotate_left
    · show Act.put _ (some 17) _ = _
      simp only [Act.put, List.setIfInBounds_toArray, List.set_cons_zero, List.set_cons_succ]
      rfl
    refine one_ (i := 11) (N := some 22) #[true, true, true, true, true, true, true, true, true, true, true, true, true, true, true, true, false, false, false, false] rfl rfl (by kernel_rfl) (by decide) (fun K hK => ?_)
    refine goes_ Try.func59 (by kernel_rfl) rfl #[.slice A l.length c, .int .i64 (lim g)] (by rfl) rfl rfl (by simp only [List.map_toArray, List.map_cons, List.map_nil]; rfl) ?_
    refine (HAT.out (lim g) _ HK.out).mono ?_
    rintro e W1 ⟨rfl, b1⟩
    refine ⟨_, rfl, ?_⟩
    have HK := Lib.hid (HK.out.trans (b1.mono (Nat.le_trans (Nat.le_of_eq HB.out.symm) HK.out.size)))
    have q0 := hHeld.1.kept b1 hHeld.1.lt
    have q1 := hHeld.2.1.kept b1 hHeld.2.1.lt
    have q2 := hHeld.2.2.kept b1 hHeld.2.2.lt
    refine hK.out _ _ ⟨q0, q1, q2⟩ (fun hHeld => ?_)
    clear hK K b1
    refine norm_ (a' := ?_) ?_ ?_
    rotate_left
    · show Act.put _ (some 22) _ = _
      simp only [Act.put, List.setIfInBounds_toArray, List.set_cons_zero, List.set_cons_succ]
      rfl
    refine one_ (i := 16) (N := some 27) #[true, true, true, true, true, true, true, true, true, true, true, true, true, true, true, true, true, false, false, false] rfl rfl (by kernel_rfl) (by decide) (fun K hK => ?_)
    refine goes_ Try.func59 (by kernel_rfl) rfl #[.slice A l.length c, .int .i64 (lim b)] (by rfl) rfl rfl (by simp only [List.map_toArray, List.map_cons, List.map_nil]; rfl) ?_
    refine (HAT.out (lim b) _ HK.out).mono ?_
    rintro e W1 ⟨rfl, b1⟩
    refine ⟨_, rfl, ?_⟩
    have HK := Lib.hid (HK.out.trans (b1.mono (Nat.le_trans (Nat.le_of_eq HB.out.symm) HK.out.size)))
    have q0 := hHeld.1.kept b1 hHeld.1.lt
    have q1 := hHeld.2.1.kept b1 hHeld.2.1.lt
    have q2 := hHeld.2.2.kept b1 hHeld.2.2.lt
    refine hK.out _ _ ⟨q0, q1, q2⟩ (fun hHeld => ?_)
    clear hK K b1
    refine norm_ (a' := ?_) ?_ ?_
    rotate_left
    · show Act.put _ (some 27) _ = _
      simp only [Act.put, List.setIfInBounds_toArray, List.set_cons_zero, List.set_cons_succ]
      rfl
    refine pure_ (i := 17) (N := some 28) (v := .agg (arrN 3 (fun k => atK l (lim (([r, g, b] : List Int).getD k 0))))) (a' := ?_) #[true, true, true, true, true, true, true, true, true, true, true, true, true, true, true, true, true, true, false, false] rfl rfl (by kernel_rfl) (fun _ _ _ h => h) (Or.inl ⟨by rfl, fun w' => exec_build rfl (by kernel_rfl)⟩) ?_ ?_
    rotate_left
    · simp only [Act.put, List.setIfInBounds_toArray, List.set_cons_zero, List.set_cons_succ]
      rfl
    refine one_ (i := 18) (N := some 29) #[true, true, true, true, true, true, true, true, true, true, true, true, true, true, true, true, true, true, true, false] rfl rfl (by kernel_rfl) (by decide) (fun K hK => ?_)
    refine goes_ Try.func57 (by kernel_rfl) rfl #[.agg (arrN 9 m), .agg (arrN 3 (fun k => atK l (lim (([r, g, b] : List Int).getD k 0))))] (by rfl) rfl rfl (by simp only [List.map_toArray, List.map_cons, List.map_nil]; rfl) ?_
    refine (rapply_any m (fun k => atK l (lim (([r, g, b] : List Int).getD k 0))) _).mono ?_
    rintro e W1 ⟨rfl, b1⟩
    refine ⟨_, rfl, ?_⟩
    have HK := Lib.hid (HK.out.trans (b1.mono (Nat.le_trans (Nat.le_of_eq HB.out.symm) HK.out.size)))
    have q0 := hHeld.1.kept b1 hHeld.1.lt
    have q1 := hHeld.2.1.kept b1 hHeld.2.1.lt
    have q2 := hHeld.2.2.kept b1 hHeld.2.2.lt
    refine hK.out _ _ ⟨q0, q1, q2⟩ (fun hHeld => ?_)
    clear hK K b1
    refine norm_ (a' := ?_) ?_ ?_
    rotate_left
    · show Act.put _ (some 29) _ = _
      simp only [Act.put, List.setIfInBounds_toArray, List.set_cons_zero, List.set_cons_succ]
      rfl
    refine last_ (i := 19) (N := none) #[true, true, true, true, true, true, true, true, true, true, true, true, true, true, true, true, true, true, true, true] rfl rfl (by kernel_rfl) (by decide) (fun K hK => ?_)
    have q3 := holdsC_row hHeld.2.2 (arrN 3 (linV l m r g b))
    refine skip_ (by rfl) rfl (exec_store3 (m := linV l m r g b) rfl rfl rfl hHeld.2.2 rfl) ?_
    refine hK.out _ _ ?_
    clear hK K
    refine done_ (by kernel_rfl) ?_
    go_wp2_with fail
    refine bodyPost_ret (v := .agg (arrN 3 (linV l m r g b))) (results_cell_row rfl _ _ (B + 1 + 1) 47 _ _ _ rfl q3 Try.underlying47 rfl (by rw [arrN_size]; exact hi3)) rfl ?_
    exact ⟨by rw [HP1.out], by rw [HB.out]; exact below_setRow HK.out (by omega) _⟩
  · have hne : (pc == 0) = false := by simpa using hpc
    have HP1 : Hid (linP nm l m r g b = fun _ => 0) := by show _ = _; rw [HP.out, if_neg hpc]
    go_wp2_with (first
      | (refine wpList_build_as rfl 47 _ rfl (arrN 3 fun _ => 0) (by kernel_rfl) ?_)
      | (refine wpList_store_arr rfl 47 (.tmp 4) (.tmp 8) rfl rfl rfl g2 rfl hi3 ?_))
    refine bodyPost_ret (v := .agg (arrN 3 fun _ => 0)) (results_cell_row rfl _ _ (B + 1 + 1) 47 _ _ _ rfl (holdsC_row g2 _) Try.underlying47 rfl (by rw [arrN_size]; exact hi3)) rfl ?_
    exact ⟨by rw [HP1.out], by rw [HB.out]; exact below_setRow gb (by omega) _⟩
end Go.Proofs.Ytlpfepcmpccbeaa.Pf
/-
  profile.both.
-/
namespace Go.Proofs.Ytlpfepcmpccbeaa.Pf
open Go.RowKit Go.Proofs.Ytlpfepcmpccbeaa.NM Go.Proofs.Ytlpfepcmpccbeaa.Cv Go.Proofs.Ytlpfepcmpccbeaa.Nm9 Go.Proofs.Ytlpfepcmpccbeaa.Mx Go.Proofs.Ytlpfepcmpccbeaa.PNum Go.Proofs.YtlpfepcmpccbeaaW.PrintWords Go.Proofs.YtlpfepcmpccbeaaW.PrintMore Go.Proofs.YtlpfepcmpccbeaaW.PrintLast
set_option linter.unusedVariables false
set_option maxRecDepth 20000 in
set_option maxHeartbeats 2000000 in
theorem both_any (nm nm' : ByteArray) (A A' : Option Addr) (c c' : Nat) (l l' : List Kn) (m m' : Nat → Int) (w : World) (hs : nm.size ≤ 140737488355232) (hs' : nm'.size ≤ 140737488355232) (hr : Kd.C k72 w A l.length l) (hc : l.length ≤ c) (hr' : Kd.C k72 w A' l'.length l') (hc' : l'.length ≤ c') :
    Calls Try.prog 31 #[.agg (profC nm (.slice A l.length c) m), .agg (profC nm' (.slice A' l'.length c') m')] w fun e w' => e = .returned (.int .i64 (if profCheck nm l m = 0 then profCheck nm' l' m' else profCheck nm l m)) ∧ Below w.heap.size w w' := by
  have H1 : Hid (∀ w', Below w.heap.size w w' → Calls Try.prog 22 #[.agg (profC nm (.slice A l.length c) m)] w' fun e w'' => e = .returned (.int .i64 (profCheck nm l m)) ∧ Below w'.heap.size w' w'') := fun w' hb => pcheck_any nm A c l m w' hs (Kd.C_below hr hb) hc
  have H2 : Hid (∀ w', Below w.heap.size w w' → Calls Try.prog 22 #[.agg (profC nm' (.slice A' l'.length c') m')] w' fun e w'' => e = .returned (.int .i64 (profCheck nm' l' m')) ∧ Below w'.heap.size w' w'') := fun w' hb => pcheck_any nm' A' c' l' m' w' hs' (Kd.C_below hr' hb) hc'
  generalize profCheck nm l m = pc at *
  generalize profCheck nm' l' m' = qc at *
  go_enter Try.func31, Try.ntmps31
  go_upto_region 1 with fail
  have h0 : holdsC ((w.alloc (.cells (profC nm (.slice A l.length c) m) 25)).alloc (.cells (profC nm' (.slice A' l'.length c') m') 25)) w.heap.size 25 (profC nm (.slice A l.length c) m) := (show holdsC (w.alloc (.cells (profC nm (.slice A l.length c) m) 25)) w.heap.size 25 (profC nm (.slice A l.length c) m) from heap_alloc_new _ _).alloc _
  have h1 : holdsC ((w.alloc (.cells (profC nm (.slice A l.length c) m) 25)).alloc (.cells (profC nm' (.slice A' l'.length c') m') 25)) (w.heap.size + 1) 25 (profC nm' (.slice A' l'.length c') m') := by
    have : holdsC ((w.alloc (.cells (profC nm (.slice A l.length c) m) 25)).alloc (.cells (profC nm' (.slice A' l'.length c') m') 25)) (w.alloc (.cells (profC nm (.slice A l.length c) m) 25)).heap.size 25 (profC nm' (.slice A' l'.length c') m') := heap_alloc_new _ _
    simpa using this
  have hb : Below w.heap.size w ((w.alloc (.cells (profC nm (.slice A l.length c) m) 25)).alloc (.cells (profC nm' (.slice A' l'.length c') m') 25)) := ((Below.refl _ _).alloc (Nat.le_refl _) _).alloc (by simp) _
  generalize ((w.alloc (.cells (profC nm (.slice A l.length c) m) 25)).alloc (.cells (profC nm' (.slice A' l'.length c') m') 25)) = wc at *
  generalize hB : w.heap.size = B at *
  have HB := Lib.hid hB
  clear hB
  go_wp2_with (refine wpList_load_row rfl 25 (.tmp 2) rfl B rfl 25 (profC nm (.slice A l.length c) m) (0, 0) _ h0 Try.underlying25 rfl (profC_info _ _ _) ?_)
  refine (H1.out _ hb).mono ?_; rintro e w1 ⟨rfl, b1⟩
  have g1 := h1.kept b1 h1.lt
  have gb := hb.trans (b1.mono (Nat.le_trans (Nat.le_of_eq HB.out.symm) hb.size))
  clear h0 h1 hb b1
  by_cases hpc : pc = 0
  · subst hpc
    go_wp2_with (refine wpList_load_row rfl 25 (.tmp 3) rfl (B + 1) rfl 25 (profC nm' (.slice A' l'.length c') m') (0, 0) _ g1 Try.underlying25 rfl (profC_info _ _ _) ?_)
    refine (H2.out _ gb).mono ?_; rintro e w2 ⟨rfl, b2⟩
    have kb := gb.trans (b2.mono (Nat.le_trans (Nat.le_of_eq HB.out.symm) gb.size))
    clear g1 gb b2
    go_wp2
    go_ret
    exact ⟨by first | rfl | simp, by rw [HB.out]; exact kb⟩
  · have hne : (pc == 0) = false := by simpa using hpc
    go_wp2
    go_ret
    exact ⟨by first | rfl | simp [hpc], by rw [HB.out]; exact gb⟩
end Go.Proofs.Ytlpfepcmpccbeaa.Pf
