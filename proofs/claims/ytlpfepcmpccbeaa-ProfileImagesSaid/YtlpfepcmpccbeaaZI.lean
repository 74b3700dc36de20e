/-
  Proved: contracts of functions of the program and of the reference, several texts of mine in one; the conditions stand at each theorem.
-/
import Derived.Test.YtlpfepcmpccbeaaZPNumx
import Derived.Lib.Hide
import Derived.Laws.Cover3
import Derived.Test.YtlpfepcmpccbeaaZQ
/-
  slices.Clone of pixels; rows of pixels.
-/
namespace Go.Proofs.Ytlpfepcmpccbeaa.Im
open Go.RowKit Go.Proofs.Ytlpfepcmpccbeaa.PNum Go.Proofs.YtlpfepcmpccbeaaW.PrintWords Go.Proofs.YtlpfepcmpccbeaaW.PrintMore Go.Proofs.YtlpfepcmpccbeaaW.PrintLast
set_option linter.unusedVariables false
abbrev Px := S35
theorem infoX : (Try.prog.info? 35).map (fun i => (i.zero, i.size, i.bytes)) = some (some (.agg #[.int .i64 0, .int .i64 0, .int .i64 0, .int .i64 0]), 4, 32) := by kernel_rfl
theorem R_CX {e : Nat} {w : World} {base n c : Nat} {ok : Nat → Prop} {A : Option Addr} {xs : List Px} (h : Kd.R k35 e w base ok (.slice A n c) xs) : xs.length ≤ c ∧ Kd.C k35 w A xs.length xs := by
  obtain ⟨A2, c2, he, h1, h2⟩ := Kd.R_reads h
  injection he with e1 e2 e3
  subst e1 e3
  exact ⟨h1, h2⟩
theorem R_setRowX {e : Nat} {w : World} {base g : Nat} {ok : Nat → Prop} {v : Value} {xs : List Px} (h : Kd.R k35 e w base ok v xs) (hg : g < base) (cs : Array Value) : Kd.R k35 e (w.setRow g cs) base ok v xs := by
  refine Kd.R_mono (Kd.R_move (Kd.R_bound h) (fun k hk => ?_)) (fun _ hk => hk.1)
  have := hk.2.1
  simp only [World.setRow]
  rw [Array.getElem?_modify, if_neg (by omega)]
theorem eql_nilX {P : Program} {w : World} (t e : TypeId) (a : Option Addr) (l c : Nat) (h : P.underlying t = some (.slice e)) : (binOp .eql t (.slice a l c) (.slice none 0 0)).run P w = .ok (.bool a.isNone) w := by
  simp only [binOp]
  simp [run_equal_slice_nil w t e a l c h]
set_option maxRecDepth 20000 in
set_option maxHeartbeats 2000000 in
theorem clone_any (A : Option Addr) (c : Nat) (l : List Px) (w : World) (hr : Kd.C k35 w A l.length l) (hc : l.length ≤ c) (hl : l.length ≤ 65536) :
    Calls Try.prog 33 #[.slice A l.length c] w fun e w' => ∃ A2 c2, e = .returned (.slice A2 l.length c2) ∧ Kd.R k35 35 w' w.heap.size (fun _ => True) (.slice A2 l.length c2) l ∧ Below w.heap.size w w' := by
  have HL : Hid (l.length ≤ 65536) := Lib.hid hl
  have hq : ∀ (w : World) (a : Option Addr) (l c : Nat), (binOp .eql 26 (.slice a l c) (.slice none 0 0)).run Try.prog w = .ok (.bool a.isNone) w := fun w a l c => eql_nilX (w := w) 26 35 a l c Try.underlying26
  cases A with
  | none =>
    have h0 : l = [] := by
      cases l with
      | nil => rfl
      | cons x t => exact absurd (hr.2.2 (by simp)) (by simp)
    subst h0
    go_enter Try.func33, Try.ntmps33
    go_wp2
    go_ret
    exact ⟨none, 0, rfl, Kd.R_nil _ _ _ _ _, Below.refl _ _⟩
  | some ad =>
    go_enter Try.func33, Try.ntmps33
    go_wp2_with (first
      | ((with_reducible refine gate_dst (N := 5) rfl ?_); refine Kd.R_lit k35 (w0 := w) w.heap.size 35 ?hg (N := 5) ?hd (xs := ([] : List Px)) (inner := []) (ok := fun _ => True) (okp := fun _ => True) ?hr ?hp (fun _ hk => hk) trivial (Below.refl _ _) (Nat.le_refl _) (by simp) ?_; (case hd => rfl); (case hg => rfl); (case hr => first | (go_simp; done) | (go_simp; rfl)); (case hp => exact Reps.none _ _); intro v1 w1 ho hb hg_ hnew_)
      | ((with_reducible refine gate_builtin (b := .append) (xs := #[.tmp 5, .tmp 6]) rfl ?_); at_builtin; refine Kd.R_append_rows k35 (Rr := Kd.K k35 w1) (w0 := w) w.heap.size rfl (.tmp 5) (.tmp 6) 26 35 (.agg #[.int .i64 0, .int .i64 0, .int .i64 0, .int .i64 0]) 32 rfl Try.underlying26 infoX rfl (by decide) (by omega) v1 [] l _ _ _ (fun _ => True) (fun _ => False) rfl rfl ?aO ?aR ?aM (fun _ h => h.elim) ?aF ?aB ?aS ?aL ?_; (case aR => exact Kd.C_below hr hb); (case aM => intro x cs hk; rw [k35_open hk]; exact k35_mkM _ _ _ x); (case aF => exact (fun _ _ => trivial)); (case aO => exact ho); (case aB => exact hb); (case aS => exact hb.size); (case aL => have := HL.out; simp; omega); intro v2 w2 ho2 hb2 hg2 hat2))
    trace_state
    rw [List.nil_append] at ho2
    obtain ⟨A2, c2, rfl⟩ := Kd.R_slice ho2
    go_ret
    exact ⟨A2, c2, rfl, ho2, hb2⟩
end Go.Proofs.Ytlpfepcmpccbeaa.Im
/-
  Images: what Picture, same and Image compute.
-/
namespace Go.Proofs.Ytlpfepcmpccbeaa.Im
open Go.RowKit Go.Proofs.Ytlpfepcmpccbeaa.NM Go.Proofs.Ytlpfepcmpccbeaa.Cv Go.Proofs.Ytlpfepcmpccbeaa.Nm9 Go.Proofs.Ytlpfepcmpccbeaa.Mx Go.Proofs.Ytlpfepcmpccbeaa.Pf Go.Proofs.Ytlpfepcmpccbeaa.PNum Go.Proofs.YtlpfepcmpccbeaaW.PrintWords Go.Proofs.YtlpfepcmpccbeaaW.PrintMore Go.Proofs.YtlpfepcmpccbeaaW.PrintLast
set_option linter.unusedVariables false
/-- a valid pixel -/
def okX (p : Px) : Bool := lim p.f0 == p.f0 && (lim p.f1 == p.f1 && (lim p.f2 == p.f2 && (lim p.f3 == p.f3)))
/-- the size of an image is not right -/
def badB (W H : Int) (n : Nat) : Bool := if W < 0 then true else if W > 256 then true else if H < 0 then true else if H > 256 then true else if ((W == 0) != (H == 0)) = true then true else ((n : Int) != wrap64 (W * H))
/-- the error of an image -/
def picC (W H : Int) (l : List Px) : Int := if badB W H l.length = true then 15 else if l.all okX = true then 0 else 2
def imgC (W H : Int) (s : Value) : Array Value := #[.int .i64 W, .int .i64 H, s]
/-- the pixel as a vector, and back -/
def pxF (p : Nat → Int) : Px := ⟨p 0, p 1, p 2, p 3⟩
def cvP (nm : ByteArray) (l : List Kn) (m : Nat → Int) (nm' : ByteArray) (l' : List Kn) (m' : Nat → Int) (p : Px) : Px := pxF (convP nm l m nm' l' m' p.f0 p.f1 p.f2 p.f3)
theorem badB_len {W H : Int} {n : Nat} (h : badB W H n = false) : n ≤ 65536 := by
  unfold badB at h
  split at h
  · exact absurd h (by simp)
  split at h
  · exact absurd h (by simp)
  split at h
  · exact absurd h (by simp)
  split at h
  · exact absurd h (by simp)
  split at h
  · exact absurd h (by simp)
  rename_i h1 h2 h3 h4 _
  have h5 : (n : Int) = wrap64 (W * H) := by simpa using h
  have h6 : W * H ≤ 256 * 256 := Int.mul_le_mul (by omega) (by omega) (by omega) (by omega)
  have h7 : 0 ≤ W * H := Int.mul_nonneg (by omega) (by omega)
  have h8 : wrap64 (W * H) = W * H := by unfold wrap64; omega
  omega
theorem wrap_succ {i n : Nat} (h : i < n) (hn : n ≤ 9223372036854775807) : wrap64 ((i : Int) + 1) = ((i + 1 : Nat) : Int) := by
  unfold wrap64; omega
theorem rdX (l : List Px) (i : Nat) (h : i < l.length) : rd_T35 l (i : Int) = l[i] := by
  unfold rd_T35
  simp [List.getD_eq_getElem?_getD, h]
theorem picture_l0 (W H : Int) (l : List Px) (hl : l.length ≤ 9223372036854775807) : ∀ j i : Nat, i + j = l.length → imageeditorref09_Picture.l0 (j + 1) (l.length : Int) (i : Int) W H l = some (if (l.drop i).all okX = true then 0 else 2)
  | 0, i, h => by
    simp only [imageeditorref09_Picture.l0]
    rw [if_neg (by omega), List.drop_eq_nil_of_le (by omega)]
    rfl
  | j + 1, i, h => by
    rw [imageeditorref09_Picture.l0, if_pos (by omega), if_pos (by omega), if_pos (by omega), rdX l i (by omega), rvalid_eq, Option.bind_some]
    rw [List.drop_eq_getElem_cons (show i < l.length by omega), List.all_cons, wrap_succ (show i < l.length by omega) hl]
    show (if okX l[i] = true then _ else _) = _
    by_cases hx : okX l[i] = true
    · rw [if_pos hx, picture_l0 W H l hl j (i + 1) (by omega), hx, Bool.true_and]
    · rw [if_neg hx, if_neg (by simp [hx])]
theorem picture_eq (W H : Int) (l : List Px) (hl : l.length ≤ 9223372036854775807) : imageeditorref09_Picture.f (l.length + 2) W H l = some (picC W H l) := by
  have hj : ∀ b, imageeditorref09_Picture.j0 (l.length + 2) b W H l = some (if b = true then 15 else if l.all okX = true then 0 else 2) := by
    intro b
    simp only [imageeditorref09_Picture.j0]
    have := picture_l0 W H l hl l.length 0 (by omega)
    rw [List.drop_zero] at this
    cases b
    · rw [if_neg (by decide), if_neg (by decide)]; exact this
    · rfl
  unfold imageeditorref09_Picture.f picC badB
  simp only [hj]
  repeat' split
  all_goals first | rfl | simp_all
theorem same_l0 (W H : Int) (l : List Px) (hl : l.length ≤ 9223372036854775807) : ∀ j i : Nat, i + j = l.length → imageeditorlaw09_same.l0 (j + 1) (l.length : Int) (i : Int) W H l W H l = some true
  | 0, i, h => by
    simp only [imageeditorlaw09_same.l0]
    rw [if_neg (by omega)]
  | j + 1, i, h => by
    rw [imageeditorlaw09_same.l0, if_pos (by omega), if_pos (by omega), if_pos (by omega), if_pos (by omega), if_neg (by simp), wrap_succ (show i < l.length by omega) hl]
    exact same_l0 W H l hl j (i + 1) (by omega)
theorem same_eq (W H : Int) (l : List Px) (hl : l.length ≤ 9223372036854775807) : imageeditorlaw09_same.f (l.length + 2) W H l W H l = some true := by
  unfold imageeditorlaw09_same.f
  rw [if_pos rfl, if_pos rfl]
  simp only [imageeditorlaw09_same.j0]
  rw [if_neg (by simp)]
  exact same_l0 W H l hl l.length 0 (by omega)
theorem picture_any (W H : Int) (A : Option Addr) (c : Nat) (l : List Px) (w : World) (hr : Kd.C k35 w A l.length l) (hc : l.length ≤ c) :
    Calls Try.prog 38 #[.agg (imgC W H (.slice A l.length c))] w fun e w' => e = .returned (.int .i64 (picC W H l)) ∧ Below w.heap.size w w' :=
  imageeditorref09_Picture.calls _ W H A c l _ w hr hc (picture_eq W H l (Kd.C_max hr))
theorem same_any (W H : Int) (A : Option Addr) (c : Nat) (l : List Px) (A' : Option Addr) (c' : Nat) (w : World) (hr : Kd.C k35 w A l.length l) (hc : l.length ≤ c) (hr' : Kd.C k35 w A' l.length l) (hc' : l.length ≤ c') :
    Calls Try.prog 12 #[.agg (imgC W H (.slice A l.length c)), .agg (imgC W H (.slice A' l.length c'))] w fun e w' => e = .returned (.bool true) ∧ Below w.heap.size w w' :=
  imageeditorlaw09_same.calls _ W H A c l W H A' c' l _ w hr hc hr' hc' (same_eq W H l (Kd.C_max hr))
theorem pvalid_any (p : Px) (w : World) : Calls Try.prog 32 #[.agg (pixC p.f0 p.f1 p.f2 p.f3)] w fun e w' => e = .returned (.bool (okX p)) ∧ Below w.heap.size w w' := by
  have h := pixel_Valid.calls p.f0 p.f1 p.f2 p.f3 (okX p) w (by rw [valid_eq]; unfold okX; simp only [Bool.beq_comm])
  exact h
theorem okX_lim {p : Px} (h : okX p = true) : lim p.f0 = p.f0 ∧ lim p.f1 = p.f1 ∧ lim p.f2 = p.f2 ∧ lim p.f3 = p.f3 := by
  unfold okX at h
  simpa using h
end Go.Proofs.Ytlpfepcmpccbeaa.Im
/-
  Images: steps for the walks.
-/
namespace Go.Proofs.Ytlpfepcmpccbeaa.Im
open Go.RowKit Go.Proofs.Ytlpfepcmpccbeaa.NM Go.Proofs.Ytlpfepcmpccbeaa.Cv Go.Proofs.Ytlpfepcmpccbeaa.Nm9 Go.Proofs.Ytlpfepcmpccbeaa.Mx Go.Proofs.Ytlpfepcmpccbeaa.Pf Go.Proofs.Ytlpfepcmpccbeaa.PNum Go.Proofs.YtlpfepcmpccbeaaW.PrintWords Go.Proofs.YtlpfepcmpccbeaaW.PrintMore Go.Proofs.YtlpfepcmpccbeaaW.PrintLast
set_option linter.unusedVariables false
theorem twoR_ {P : Program} {ops : Array Oper} {Q : Exit → Act → World → Prop} {md : Region.Mode} {S : World → Prop} {ds : List Nat} {i j : Nat} {Ni Nj : Option Tmp} {oi oj : Oper} {fuel : Nat} {l : Array Bool} {a : Act} {w : World} (li lj : Array Bool) (hi : ops[i]? = some oi) (hj : ops[j]? = some oj) (hNi : oi.dst = Ni) (hNj : oj.dst = Nj)
    (hc : (Region.ready md ops l == [i, j] && l.setIfInBounds i true == li && l.setIfInBounds j true == lj) = true) (hdi : i ∉ ds) (hdj : j ∉ ds)
    (h1 : ∀ K : Act → World → Prop, Shut (∀ a' w', S w' → (S w' → wpAnyLast P md ops Q S ds fuel li a' w') → K a' w') → if Region.wanted oi (yielded ops a.tmps) = true then Oper.wp P oi a w K Q else K (a.put Ni undef) w)
    (h2 : ∀ K : Act → World → Prop, Shut (∀ a' w', S w' → (S w' → wpAnyLast P md ops Q S ds fuel lj a' w') → K a' w') → if Region.wanted oj (yielded ops a.tmps) = true then Oper.wp P oj a w K Q else K (a.put Nj undef) w) :
    wpAnyLast P md ops Q S ds (fuel + 1) l a w := by
  subst hNi
  subst hNj
  simp only [Bool.and_eq_true, beq_iff_eq] at hc
  obtain ⟨⟨h3, h4⟩, h5⟩ := hc
  subst h4
  subst h5
  exact wpAnyLast_ready h3 (by simp) (AllReadyL.cons hi hdi (fun K hK => h1 K hK) (AllReadyL.cons hj hdj (fun K hK => h2 K hK) AllReadyL.nil))
theorem exec_newX {o : Oper} {a : Act} {w : World} (ho : o.op = .alloc 35) : (execOp a.eval o).run Try.prog w = .ok (.value (.pointer (some ⟨w.heap.size, 0, none⟩))) (w.alloc (.cells #[.int .i64 0, .int .i64 0, .int .i64 0, .int .i64 0] 35)) := by
  unfold execOp
  rw [ho]
  go_simp
theorem exec_newI {o : Oper} {a : Act} {w : World} (ho : o.op = .alloc 28) : (execOp a.eval o).run Try.prog w = .ok (.value (.pointer (some ⟨w.heap.size, 0, none⟩))) (w.alloc (.cells #[.int .i64 0, .int .i64 0, .slice none 0 0] 28)) := by
  unfold execOp
  rw [ho]
  go_simp
theorem below_grown {w0 W W1 : World} {B g : Nat} (h : Below B w0 W) (hg : W.grownBy W1 (some g)) (hB : B ≤ g) (hs : B ≤ W.heap.size) : Below B w0 W1 :=
  h.trans ⟨hg.os, hg.tape, hg.output, hg.size, fun k hk => hg.block k (by omega) (fun he => by injection he with he; omega)⟩
theorem holdsC_grown {W W1 : World} {G g t : Nat} {c : Array Value} (h : holdsC W G t c) (hg : W.grownBy W1 (some g)) (hne : G ≠ g) : holdsC W1 G t c := by
  have hl := h.lt
  unfold holdsC at *
  rw [hg.block G hl (fun he => hne (by injection he))]
  exact h
theorem own_apart {W : World} {G g t e : Nat} {c cells : Array Value} (h : holdsC W G t c) (h2 : W.heap[g]? = some (.cells cells e (0, 0))) (hne : t ≠ e) : G ≠ g := by
  rintro rfl
  unfold holdsC at h
  rw [h] at h2
  injection h2 with h2
  injection h2 with _ h3
  exact hne h3
theorem R_knots {b base g n cap : Nat} {W W1 : World} {u : Value} {ad : Addr} {ks : List Kn} {xs : List Px} (h : Kd.R k72 72 W b (fun _ => True) u ks) (had : ad = ⟨g, 0, none⟩) (hv : Kd.R k35 35 W base (fun _ => True) (.slice (some ad) n cap) xs) (hg : W.grownBy W1 (some g)) :
    Kd.R k72 72 W1 b (fun _ => True) u ks :=
  Kd.R_over h hv (by decide) (by subst had; simpa [Value.ownBlock] using hg)
theorem R_setRowT {e G base : Nat} {W : World} {v : Value} {xs : List Px} {c : Array Value} (h : Kd.R k35 35 W base (fun _ => True) v xs) (hG : holdsC W G e c) (he : 35 ≠ e) (cs : Array Value) :
    Kd.R k35 35 (W.setRow G cs) base (fun _ => True) v xs := by
  have hE : ∀ q, q ∈ 35 :: Kd.E k35 → q ≠ e := by
    intro q hq
    have : q = 35 := by
      rw [show Kd.E k35 = [] from rfl] at hq
      simpa using hq
    rw [this]; exact he
  refine Kd.R_mono (Kd.R_move (Kd.R_types h hG hE) (fun k hk => ?_)) (fun _ hk => hk.1)
  simp only [World.setRow]
  rw [Array.getElem?_modify, if_neg (fun h => hk.2 h.symm)]
/-- the pixel is written into element i of the row in block g -/
def stW (W : World) (g i : Nat) (f : Nat → Int) : World := W.setCells g (i * 4 + 0) [.int .i64 (f 0), .int .i64 (f 1), .int .i64 (f 2), .int .i64 (f 3)]
set_option maxRecDepth 20000 in
theorem storeRX_R {W : World} {base g n cap i : Nat} {ad : Addr} {xs : List Px} {f : Nat → Int} (had : ad = ⟨g, 0, none⟩) (HO : Kd.R k35 35 W base (fun _ => True) (.slice (some ad) n cap) xs) (hi : i < n) :
    Kd.R k35 35 (stW W g i f) base (fun _ => True) (.slice (some ad) n cap) (xs.set i (pxF f)) ∧ W.grownBy (stW W g i f) (some g) := by
  subst had
  obtain ⟨c, hcl, _, hcc, _⟩ := Kd.R_elem HO z35 (i : Int) (by omega) (by omega)
  have hcl4 : c.length = 4 := hcl
  have hM : Kd.M k35 W base (fun _ => False) (pxF f) (c.take 0 ++ [.int .i64 (f 0), .int .i64 (f 1), .int .i64 (f 2), .int .i64 (f 3)] ++ c.drop (0 + [Value.int .i64 (f 0), .int .i64 (f 1), .int .i64 (f 2), .int .i64 (f 3)].length)) := by
    rw [show c.take 0 ++ [Value.int .i64 (f 0), .int .i64 (f 1), .int .i64 (f 2), .int .i64 (f 3)] ++ c.drop (0 + [Value.int .i64 (f 0), .int .i64 (f 1), .int .i64 (f 2), .int .i64 (f 3)].length) = [Value.int .i64 (f 0), .int .i64 (f 1), .int .i64 (f 2), .int .i64 (f 3)] by
      rw [List.take_zero, List.nil_append, List.drop_eq_nil_of_le (by simp; omega), List.append_nil]]
    exact k35_mkM _ _ _ (pxF f)
  exact Kd.R_seg (okp := fun _ => False) HO (i : Int) (by omega) (by omega) hcl hcc (show 0 + 4 ≤ 4 by decide) hM (fun _ h => h.elim)
set_option maxRecDepth 20000 in
theorem storeRX_run {o : Oper} {a : Act} {W : World} {base g n cap i : Nat} {ad : Addr} {xs : List Px} {f : Nat → Int} {x y : Operand} (ho : o.op = .store 35 x y) (hx : a.eval x = .pointer (some (ad.add (i * 4)))) (hy : a.eval y = .agg (pixF f)) (had : ad = ⟨g, 0, none⟩)
    (HO : Kd.R k35 35 W base (fun _ => True) (.slice (some ad) n cap) xs) (hi : i < n) : (execOp a.eval o).run Try.prog W = .ok .skip (stW W g i f) := by
  subst had
  have hnx : n = xs.length := (Kd.R_reads' HO).1
  obtain ⟨_, inner, hown, hr⟩ := HO
  have hrun : (Instr.storeAt 35 (.pointer (some ⟨g, i * 4 + 0, none⟩)) (.agg (pixF f))).run Try.prog W = .ok () (stW W g i f) := by
    rcases hown.2 with ⟨hv, _⟩ | ⟨g', cap', cur, hv, hb, hh, hnc, hcm, hcs, _⟩
    · cases hv
    injection hv with ha _ hc
    injection ha with ha
    injection ha with hg'
    subst hg'; subst hc
    refine run_store_run 35 _ [.int .i64 (f 0), .int .i64 (f 1), .int .i64 (f 2), .int .i64 (f 3)] hh rfl (by kernel_rfl) ?_ (by intro q hq; simp at hq; rcases hq with rfl | rfl | rfl | rfl <;> rfl)
    have h2 : i * 4 + 4 ≤ n * 4 := by omega
    have h3 : n * 4 ≤ cap * 4 := by omega
    have hcs' : cur.size = cap * 4 := hcs
    show i * 4 + 0 + 4 ≤ cur.size
    omega
  rw [Nat.add_zero] at hrun
  rw [add_plain] at hx
  unfold execOp
  simp only [ho, hx, hy, Sem.run_bind, Sem.run_pure, Result.andThen_ok, hrun]
/-- the row as it stands after i rounds -/
def curP (f : Px → Px) (l : List Px) (i : Nat) : List Px := (l.take i).map f ++ l.drop i
theorem curP_0 (f : Px → Px) (l : List Px) : curP f l 0 = l := by simp [curP]
theorem curP_n (f : Px → Px) (l : List Px) : curP f l l.length = l.map f := by simp [curP]
theorem curP_len (f : Px → Px) (l : List Px) (i : Nat) : (curP f l i).length = l.length := by simp [curP]; omega
theorem curP_get (f : Px → Px) (l : List Px) (i : Nat) (h : i < l.length) : rd_T35 (curP f l i) (i : Int) = rd_T35 l (i : Int) := by
  rw [rdX _ i (by rw [curP_len]; exact h), rdX l i h]
  unfold curP
  rw [List.getElem_append_right (by simp; omega)]
  simp only [List.length_map, List.length_take, Nat.min_eq_left (Nat.le_of_lt h), Nat.sub_self]
  simp
theorem curP_set (f : Px → Px) (l : List Px) (i : Nat) (h : i < l.length) : (curP f l i).set i (f (rd_T35 l (i : Int))) = curP f l (i + 1) := by
  rw [rdX l i h]
  unfold curP
  rw [List.set_append_right _ _ (by simp; omega)]
  simp only [List.length_map, List.length_take, Nat.min_eq_left (Nat.le_of_lt h), Nat.sub_self]
  rw [List.drop_eq_getElem_cons h, List.set_cons_zero, List.take_succ_eq_append_getElem h, List.map_append, List.append_assoc]
  rfl
theorem all_step {l : List Px} {i : Nat} (h : i < l.length) (h1 : (l.take i).all okX = true) (h2 : okX (rd_T35 l (i : Int)) = true) : (l.take (i + 1)).all okX = true := by
  rw [rdX l i h] at h2
  rw [List.take_succ_eq_append_getElem h, List.all_append, h1, List.all_cons, h2]
  rfl
theorem all_no {l : List Px} {i : Nat} (h : i < l.length) (h2 : okX (rd_T35 l (i : Int)) = false) : l.all okX = false := by
  rw [rdX l i h] at h2
  rw [List.all_eq_false]
  exact ⟨_, List.getElem_mem h, by rw [h2]; decide⟩
/-- what is returned -/
def imgW (E x : Int) : Int := if E = 0 then x else 0
def imgL (E : Int) (l : List Px) : List Px := if E = 0 then l else []
theorem img_err {E : Int} (h : E ≠ 0) (W H : Int) (l : List Px) : imgC (imgW E W) (imgW E H) (.slice none (imgL E l).length 0) = #[.int .i64 0, .int .i64 0, .slice none 0 0] ∧ imgL E l = [] := by
  unfold imgW imgL imgC
  rw [if_neg h, if_neg h, if_neg h]
  exact ⟨rfl, rfl⟩
/-- the error of Image -/
def imgE (bc W H : Int) (l : List Px) : Int := if bc = 0 then picC W H l else bc
theorem conv_same {nm : ByteArray} {l : List Kn} {m : Nat → Int} {nm' : ByteArray} {l' : List Kn} {m' : Nat → Int} (hb : bothC nm l m nm' l' m' = 0) (hs : profSame nm l m nm' l' m' = true) {px : List Px} (h : px.all okX = true) : px.map (cvP nm l m nm' l' m') = px := by
  have : ∀ p ∈ px, cvP nm l m nm' l' m' p = p := by
    intro p hp
    obtain ⟨h0, h1, h2, h3⟩ := okX_lim (List.all_eq_true.1 h p hp)
    unfold cvP convP
    rw [if_pos hb, if_pos hs]
    show (⟨lim p.f0, lim p.f1, lim p.f2, lim p.f3⟩ : Px) = p
    rw [h0, h1, h2, h3]
  rw [List.map_congr_left this, List.map_id']
theorem conv_diff {nm : ByteArray} {l : List Kn} {m : Nat → Int} {nm' : ByteArray} {l' : List Kn} {m' : Nat → Int} (hb : bothC nm l m nm' l' m' = 0) (hs : profSame nm l m nm' l' m' = false) : cvP nm l m nm' l' m' = fun p => pxF (encE (invK l') (invV m') (linV l m p.f0 p.f1 p.f2) p.f3) := by
  funext p
  unfold cvP convP
  rw [if_pos hb, if_neg (by rw [hs]; decide)]
end Go.Proofs.Ytlpfepcmpccbeaa.Im
