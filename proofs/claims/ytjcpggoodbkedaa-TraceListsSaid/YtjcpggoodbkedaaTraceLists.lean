/- The given statement TraceListsSaid is proved: the text of a row of events, those of a kind with their places, and those of a time are told rightly. Conditions: at most 500 events, as the statement itself says them; none beside. -/
import Derived.Test.YtjcpggoodbkedaaTraceListsP2
import Derived.KernelRfl
import Derived.Test.YtjcpggoodbkedaaProg
import Derived.Test.YtjcpggoodbkedaaRows
section
namespace Go.Proofs.Ytjcpggoodbkedaa
open Go Go.Sl
set_option linter.unusedVariables false
set_option linter.unusedSimpArgs false
set_option maxRecDepth 4000
variable {B : Nat} {K : Asrt B}
theorem slt_31 : slT Try.prog 31 = some (36, 4, 32, [.int .i64 0, .int .i64 0, .int .i64 0, .int .i64 0]) := by kernel_rfl
theorem uf_83 : isFuncT Try.prog 83 = true := by kernel_rfl
theorem zero_31 : zeroOf Try.prog 31 = some [.slice none 0 0] := by kernel_rfl

def lnE (e : Ev) : List UInt8 := if rtE e then lineE e ++ [10] else []
def textE (l : List Ev) : List UInt8 := l.flatMap lnE
theorem textE_s {l : List Ev} {i : Nat} {e : Ev} (h : l[i]? = some e) : textE (l.take (i + 1)) = textE (l.take i) ++ lnE e := by
  unfold textE; rw [List.take_add_one, h, List.flatMap_append]; simp
theorem lnE_t {e : Ev} (h : ¬ lineE e = []) : lnE e = lineE e ++ [10] := by
  have : rtE e = true := by rw [← lineE_ne]; simp [h]
  unfold lnE; rw [if_pos this]
theorem lnE_f {e : Ev} (h : lineE e = []) : lnE e = [] := by
  have : rtE e = false := by rw [← lineE_ne]; simp [h]
  unfold lnE; rw [if_neg (by rw [this]; decide)]
theorem lnE_len (e : Ev) : (lnE e).length ≤ 51 := by
  unfold lnE; split
  · have := lineE_len e; simp; omega
  · simp
theorem textE_len : ∀ l : List Ev, (textE l).length ≤ 51 * l.length
  | [] => by simp [textE]
  | e :: l => by
    have h1 := textE_len l; have h2 := lnE_len e
    have : textE (e :: l) = lnE e ++ textE l := rfl
    rw [this, List.length_append, List.length_cons]; omega
theorem textE_take (l : List Ev) (i : Nat) : (textE (l.take i)).length ≤ 51 * i := by
  have := textE_len (l.take i); rw [List.length_take] at this; omega
def btw (f t : Int) (l : List Ev) : List Ev := l.filter fun e => decide (f ≤ e.tick ∧ e.tick < t)
theorem btw_t {f t : Int} {l : List Ev} {i : Nat} {e : Ev} (h : l[i]? = some e) (hc : f ≤ e.tick ∧ e.tick < t) : btw f t (l.take (i + 1)) = btw f t (l.take i) ++ [e] := by
  unfold btw; rw [List.take_add_one, h, List.filter_append]; simp [hc]
theorem btw_f {f t : Int} {l : List Ev} {i : Nat} {e : Ev} (h : l[i]? = some e) (hc : ¬ (f ≤ e.tick ∧ e.tick < t)) : btw f t (l.take (i + 1)) = btw f t (l.take i) := by
  unfold btw; rw [List.take_add_one, h, List.filter_append]; simp; omega
theorem btw_len (f t : Int) (l : List Ev) (i : Nat) : (btw f t (l.take i)).length ≤ i := by
  have := List.length_filter_le (fun e : Ev => decide (f ≤ e.tick ∧ e.tick < t)) (l.take i)
  unfold btw; rw [List.length_take] at this; omega
theorem btw_get {f t : Int} {l : List Ev} {i : Nat} {e : Ev} (h : l[i]? = some e) (hc : f ≤ e.tick ∧ e.tick < t) : (btw f t (l.take i)).length < (btw f t l).length ∧ (btw f t l)[(btw f t (l.take i)).length]? = some e := by
  have e1 : btw f t l = btw f t (l.take (i + 1)) ++ btw f t (l.drop (i + 1)) := by
    unfold btw; rw [← List.filter_append, List.take_append_drop]
  rw [e1, btw_t h hc]
  refine ⟨by simp, ?_⟩
  rw [List.append_assoc, List.getElem?_append_right (Nat.le_refl _)]; simp
theorem geq_f {m n : Int} (h : m < n) : some (Value.bool (decide (m ≥ n))) = some (.bool false) := by simp; omega
theorem neq_f {m n : Int} (h : m = n) : some (Value.bool (m != n)) = some (.bool false) := by simp [h]
theorem st_allE : ∀ e : Ev, (encE e).all (·.oneCell') = true := fun _ => rfl

theorem tText (l : Arr Ev) (hl : Rd K l.ad (l.l.flatMap encE)) (h5 : l.l.length ≤ 500) : Ctr Try.prog B 28 [.slice l.oad l.l.length l.c] [K] (fun v S => v = str (textE l.l) ∧ S = [K]) := by
  refine Ctr_of_X (N := 23) Try.func28 rfl (by simp) rfl ?_
  intro w0 D0
  refine X_seq ?_
  refine X_region ?_
  refine XL_det .no (D_pure rfl) rfl ?_
  refine XL_then ?_
  refine X_seq ?_
  refine X_region ?_
  refine XL_det .no (D_pure rfl) rfl ?_
  refine XL_then ?_
  refine X_seq ?_
  refine X_seq ?_
  refine X_region ?_
  refine XL_det .no (D_pure rfl) rfl ?_
  refine XL_det .no (D_len rfl rfl slc_31) rfl ?_
  refine XL_det .no (D_pure rfl) rfl ?_
  refine XL_then ?_
  refine X_block ?_
  refine X_loop (α := Nat) (fun i => i ≤ l.l.length) (fun i => [(3, str (textE (l.l.take i))), (9, .int .i64 (i : Int)), (7, .slice l.oad l.l.length l.c), (8, .int .i64 (l.l.length : Int))]) (fun i => [K]) (fun i => l.l.length - i) 0 ?_ (by refine ⟨?_, ?_, ?_, ?_, trivial⟩ <;> rfl) (by repeat first | with_reducible exact .nil _ | with_reducible exact .here _ _ | with_reducible exact Take.self _ | with_reducible apply Take.cons | with_reducible apply Out.there | with_reducible apply Take.skip | with_reducible exact Take.pre _ _ | with_reducible apply Out.app) ?_
  · exact Nat.zero_le _
  · intro i hi
    refine X_seq ?_
    refine X_region ?_
    refine XL_det .no (D_pure rfl) rfl ?_
    refine XL_then ?_
    refine X_seq ?_
    refine X_cond rfl (fun h1 => ?_) (fun h1 => ?_)
    · try simp only [decide_eq_true_eq, decide_eq_false_iff_not, Bool.not_eq_true', Bool.not_eq_false', beq_iff_eq, bne_iff_ne, beq_eq_false_iff_ne, bne_eq_false_iff_eq, Int.not_lt, Int.not_le, gt_iff_lt, ge_iff_le, ne_eq] at h1
      obtain ⟨e, hg⟩ : ∃ e, l.l[i]? = some e := ⟨_, List.getElem?_eq_getElem (by omega)⟩
      have hll := lineE_len e
      have htl := textE_take l.l i
      refine X_skip ?_
      refine thenX_normal ?_
      refine X_seq ?_
      refine X_block ?_
      refine X_seq ?_
      refine X_region ?_
      refine XL_det .no (D_idxSo rfl rfl slc_31 (l).nil0 rfl (by omega) rfl) rfl ?_
      refine XL_det .no (D_els (enc := encE) (sz := 4) (i := i) (fun _ => rfl) rfl (by repeat first | with_reducible exact .here _ _ | with_reducible apply Out.there | with_reducible apply Out.app) hl tk_36 hg) rfl ?_
      refine XL_alloc (cs := encE zE) .no zero_36 rfl (fun b1 => ?_)
      refine XL_efd .no (F_stw (vs := encE e) rfl rfl (by rfl) (by repeat first | with_reducible exact .here _ _ | with_reducible apply Out.there | with_reducible apply Out.app) tk_36 rfl rfl) ?_
      refine XL_then ?_
      refine X_seq ?_
      refine X_region ?_
      refine XL_det .no (D_ldso (vs := encE e) rfl (by repeat first | with_reducible exact .here _ _ | with_reducible apply Out.there | with_reducible apply Out.app) tk_36 rfl (by rfl)) rfl ?_
      refine XL_callv .no en_19 rfl (tLine e) rfl ?_
      refine XL_det .no (D_pure rfl) rfl ?_
      refine XL_then ?_
      refine X_seq ?_
      refine X_region ?_
      refine XL_det .no (D_pure rfl) rfl ?_
      refine XL_det .no (D_seq (b := []) rfl rfl rfl) rfl ?_
      refine XL_then ?_
      refine X_cond rfl (fun h2 => ?_) (fun h2 => ?_)
      · try simp only [decide_eq_true_eq, decide_eq_false_iff_not, Bool.not_eq_true', Bool.not_eq_false', beq_iff_eq, bne_iff_ne, beq_eq_false_iff_ne, bne_eq_false_iff_eq, Int.not_lt, Int.not_le, gt_iff_lt, ge_iff_le, ne_eq] at h2
        refine X_region ?_
        refine XL_det .no (D_pure rfl) rfl ?_
        refine XL_det .no (D_pure rfl) rfl ?_
        refine XL_det .no (D_scat (b := [10]) rfl rfl (by simp only [List.length_append, List.length_cons, List.length_nil]; omega)) rfl ?_
        refine XL_det .no (D_scat rfl rfl (by simp only [List.length_append, List.length_cons, List.length_nil]; omega)) rfl ?_
        refine XL_det .no (D_pure rfl) rfl ?_
        refine XL_nil ?_
        refine inBlk_normal ?_
        refine thenX_normal ?_
        refine X_region ?_
        refine XL_det .no (D_add rfl rfl (by omega) (by omega)) rfl ?_
        refine XL_det .no (D_pure rfl) rfl ?_
        refine XL_nil ?_
        refine loopQ_next (i + 1) ?_ ?_ ?_ ?_
        · omega
        · omega
        · refine ⟨by rw [textE_s hg, lnE_t h2]; rfl, ?_, ?_, ?_, trivial⟩ <;> rfl
        · exact ⟨_, (by repeat first | with_reducible exact .nil _ | with_reducible exact .here _ _ | with_reducible exact Take.self _ | with_reducible apply Take.cons | with_reducible apply Out.there | with_reducible apply Take.skip | with_reducible exact Take.pre _ _ | with_reducible apply Out.app)⟩
      · try simp only [decide_eq_true_eq, decide_eq_false_iff_not, Bool.not_eq_true', Bool.not_eq_false', beq_iff_eq, bne_iff_ne, beq_eq_false_iff_ne, bne_eq_false_iff_eq, Int.not_lt, Int.not_le, gt_iff_lt, ge_iff_le, ne_eq] at h2
        refine X_skip ?_
        refine inBlk_normal ?_
        refine thenX_normal ?_
        refine X_region ?_
        refine XL_det .no (D_add rfl rfl (by omega) (by omega)) rfl ?_
        refine XL_det .no (D_pure rfl) rfl ?_
        refine XL_nil ?_
        refine loopQ_next (i + 1) ?_ ?_ ?_ ?_
        · omega
        · omega
        · refine ⟨by rw [textE_s hg, lnE_f h2, List.append_nil]; rfl, ?_, ?_, ?_, trivial⟩ <;> rfl
        · exact ⟨_, (by repeat first | with_reducible exact .nil _ | with_reducible exact .here _ _ | with_reducible exact Take.self _ | with_reducible apply Take.cons | with_reducible apply Out.there | with_reducible apply Take.skip | with_reducible exact Take.pre _ _ | with_reducible apply Out.app)⟩
    · try simp only [decide_eq_true_eq, decide_eq_false_iff_not, Bool.not_eq_true', Bool.not_eq_false', beq_iff_eq, bne_iff_ne, beq_eq_false_iff_ne, bne_eq_false_iff_eq, Int.not_lt, Int.not_le, gt_iff_lt, ge_iff_le, ne_eq] at h1
      obtain rfl : i = l.l.length := by omega
      refine X_exit ?_
      refine thenX_exit ?_
      refine loopQ_exit ?_
      refine inBlk_here ?_
      refine thenX_normal ?_
      refine X_seq ?_
      refine X_region ?_
      refine XL_det .no (D_pure rfl) rfl ?_
      refine XL_det .no (D_pure rfl) rfl ?_
      refine XL_then ?_
      refine X_ret ?_
      refine ret_ok (.nil _) (res_tmp rfl rfl) ?_
      exact ⟨_, ⟨by rw [List.take_length], rfl⟩, _, (by repeat first | with_reducible exact .nil _ | with_reducible exact .here _ _ | with_reducible exact Take.self _ | with_reducible apply Take.cons | with_reducible apply Out.there | with_reducible apply Take.skip | with_reducible exact Take.pre _ _ | with_reducible apply Out.app)⟩

theorem tBetween (f t : Int) (l : Arr Ev) (hl : Rd K l.ad (l.l.flatMap encE)) (h5 : l.l.length ≤ 500) : Ctr Try.prog B 27 [.int .i64 f, .int .i64 t, .slice l.oad l.l.length l.c] [K] (fun v S => ∃ x : Arr Ev, (x.l = btw f t l.l ∧ x.Own) ∧ v = x.v ∧ S = [row (.slice x.oad x.l.length x.c) 36 4 x.l.length (x.l.flatMap encE)] ++ [K]) := by
  refine Ctr_of_X (N := 32) Try.func27 rfl (by simp) rfl ?_
  intro w0 D0
  refine X_seq ?_
  refine X_region ?_
  refine XL_det .no (D_pure rfl) rfl ?_
  refine XL_then ?_
  refine X_seq ?_
  refine X_region ?_
  refine XL_det .no (D_pure rfl) rfl ?_
  refine XL_then ?_
  refine X_seq ?_
  refine X_seq ?_
  refine X_region ?_
  refine XL_det .no (D_pure rfl) rfl ?_
  refine XL_det .no (D_len rfl rfl slc_31) rfl ?_
  refine XL_det .no (D_pure rfl) rfl ?_
  refine XL_then ?_
  refine X_block ?_
  refine X_rowa encE 36 4 ?_
  refine X_loop (α := Nat × Arr Ev) (fun ⟨i, a⟩ => i ≤ l.l.length ∧ a.l = btw f t (l.l.take i) ∧ a.Own) (fun ⟨i, a⟩ => [(7, .slice a.oad a.l.length a.c), (12, .int .i64 (i : Int)), (0, .int .i64 f), (1, .int .i64 t), (10, .slice l.oad l.l.length l.c), (11, .int .i64 (l.l.length : Int))]) (fun ⟨i, a⟩ => [row (.slice a.oad a.l.length a.c) 36 4 a.l.length (a.l.flatMap encE), K]) (fun ⟨i, a⟩ => l.l.length - i) (0, Arr.emp) ?_ (by refine ⟨?_, ?_, ?_, ?_, ?_, ?_, trivial⟩ <;> rfl) (by repeat first | with_reducible exact .nil _ | with_reducible exact .here _ _ | with_reducible exact Take.self _ | with_reducible apply Take.cons | with_reducible apply Out.there | with_reducible apply Take.skip | with_reducible exact Take.pre _ _ | with_reducible apply Out.app) ?_
  · exact ⟨Nat.zero_le _, rfl, Arr.emp_own⟩
  · rintro ⟨i, a⟩ ⟨hi, ha, hao⟩
    dsimp only
    have hal : a.l.length ≤ i := by rw [ha]; exact btw_len _ _ _ _
    refine X_seq ?_
    refine X_region ?_
    refine XL_det .no (D_pure rfl) rfl ?_
    refine XL_then ?_
    refine X_seq ?_
    refine X_cond rfl (fun h1 => ?_) (fun h1 => ?_)
    · try simp only [decide_eq_true_eq, decide_eq_false_iff_not, Bool.not_eq_true', Bool.not_eq_false', beq_iff_eq, bne_iff_ne, beq_eq_false_iff_ne, bne_eq_false_iff_eq, Int.not_lt, Int.not_le, gt_iff_lt, ge_iff_le, ne_eq] at h1
      obtain ⟨e, hg⟩ : ∃ e, l.l[i]? = some e := ⟨_, List.getElem?_eq_getElem (by omega)⟩
      refine X_skip ?_
      refine thenX_normal ?_
      refine X_seq ?_
      refine X_block ?_
      refine X_seq ?_
      refine X_region ?_
      refine XL_det .no (D_idxSo rfl rfl slc_31 (l).nil0 rfl (by omega) rfl) rfl ?_
      refine XL_det .no (D_els (enc := encE) (sz := 4) (i := i) (fun _ => rfl) rfl (by repeat first | with_reducible exact .here _ _ | with_reducible apply Out.there | with_reducible apply Out.app) hl tk_36 hg) rfl ?_
      refine XL_alloc (cs := encE zE) .no zero_36 rfl (fun b1 => ?_)
      refine XL_efd .no (F_stw (vs := encE e) rfl rfl (by rfl) (by repeat first | with_reducible exact .here _ _ | with_reducible apply Out.there | with_reducible apply Out.app) tk_36 rfl rfl) ?_
      refine XL_then ?_
      refine X_seq ?_
      refine X_region ?_
      refine XL_det .no (D_fld rfl fld_36_0 (o' := 0) rfl) rfl ?_
      refine XL_det .no (D_ldo rfl (by repeat first | with_reducible exact .here _ _ | with_reducible apply Out.there | with_reducible apply Out.app) tk_3 (by rfl)) rfl ?_
      refine XL_det .no (D_pure rfl) rfl ?_
      refine XL_det .no (D_pure rfl) rfl ?_
      refine XL_det .no (D_pure rfl) rfl ?_
      refine XL_split (t := 20) rfl (fun h2 => ?_) (fun h2 => ?_)
      · try simp only [decide_eq_true_eq, decide_eq_false_iff_not, Bool.not_eq_true', Bool.not_eq_false', beq_iff_eq, bne_iff_ne, beq_eq_false_iff_ne, bne_eq_false_iff_eq, Int.not_lt, Int.not_le, gt_iff_lt, ge_iff_le, ne_eq] at h2
        refine XL_det (.yes 20 rfl rfl rfl) (D_fld rfl fld_36_0 (o' := 0) rfl) rfl ?_
        refine XL_det (.yes 20 rfl rfl rfl) (D_ldo rfl (by repeat first | with_reducible exact .here _ _ | with_reducible apply Out.there | with_reducible apply Out.app) tk_3 (by rfl)) rfl ?_
        refine XL_det (.yes 20 rfl rfl rfl) (D_pure rfl) rfl ?_
        refine XL_det (.yes 20 rfl rfl rfl) (D_pure rfl) rfl ?_
        refine XL_det .no (D_pure rfl) rfl ?_
        refine XL_then ?_
        refine X_cond rfl (fun h3 => ?_) (fun h3 => ?_)
        · try simp only [decide_eq_true_eq, decide_eq_false_iff_not, Bool.not_eq_true', Bool.not_eq_false', beq_iff_eq, bne_iff_ne, beq_eq_false_iff_ne, bne_eq_false_iff_eq, Int.not_lt, Int.not_le, gt_iff_lt, ge_iff_le, ne_eq] at h3
          refine X_region ?_
          refine XL_det .no (D_pure rfl) rfl ?_
          refine XL_det .no (D_ldso (vs := encE e) rfl (by repeat first | with_reducible exact .here _ _ | with_reducible apply Out.there | with_reducible apply Out.app) tk_36 rfl (by rfl)) rfl ?_
          refine XL_bslice (cs := encE e) .no rfl slt_31 (by decide) (by decide) (by rfl) (by rfl) rfl rfl (fun b2 => ?_)
          refine XL_app1 (enc := encE) (c := a) (y := e) (K := _) .no rfl rfl slt_31 (by repeat first | with_reducible exact .here _ _ | with_reducible apply Out.there | with_reducible apply Out.app) (by repeat first | with_reducible exact .here _ _ | with_reducible apply Out.there | with_reducible apply Out.app) (Rd_blk0) rfl rfl (by omega) (by omega) rfl (fun a2 ha2 ha2o => ?_)
          refine XL_det .no (D_pure rfl) rfl ?_
          refine XL_nil ?_
          refine inBlk_normal ?_
          refine thenX_normal ?_
          refine X_region ?_
          refine XL_det .no (D_add rfl rfl (by omega) (by omega)) rfl ?_
          refine XL_det .no (D_pure rfl) rfl ?_
          refine XL_nil ?_
          refine loopQ_next (i + 1, a2) ?_ ?_ ?_ ?_
          · (try dsimp only); exact ⟨by omega, by rw [ha2, ha, btw_t hg ⟨h2, h3⟩], ha2o⟩
          · (try dsimp only); omega
          · refine ⟨?_, ?_, ?_, ?_, ?_, ?_, trivial⟩ <;> rfl
          · (try dsimp only); exact ⟨_, (by repeat first | with_reducible exact .nil _ | with_reducible exact .here _ _ | with_reducible exact Take.self _ | with_reducible apply Take.cons | with_reducible apply Out.there | with_reducible apply Take.skip | with_reducible exact Take.pre _ _ | with_reducible apply Out.app)⟩
        · try simp only [decide_eq_true_eq, decide_eq_false_iff_not, Bool.not_eq_true', Bool.not_eq_false', beq_iff_eq, bne_iff_ne, beq_eq_false_iff_ne, bne_eq_false_iff_eq, Int.not_lt, Int.not_le, gt_iff_lt, ge_iff_le, ne_eq] at h3
          refine X_skip ?_
          refine inBlk_normal ?_
          refine thenX_normal ?_
          refine X_region ?_
          refine XL_det .no (D_add rfl rfl (by omega) (by omega)) rfl ?_
          refine XL_det .no (D_pure rfl) rfl ?_
          refine XL_nil ?_
          refine loopQ_next (i + 1, a) ?_ ?_ ?_ ?_
          · (try dsimp only); exact ⟨by omega, by rw [ha, btw_f hg (fun e => by omega)], hao⟩
          · (try dsimp only); omega
          · refine ⟨?_, ?_, ?_, ?_, ?_, ?_, trivial⟩ <;> rfl
          · (try dsimp only); exact ⟨_, (by repeat first | with_reducible exact .nil _ | with_reducible exact .here _ _ | with_reducible exact Take.self _ | with_reducible apply Take.cons | with_reducible apply Out.there | with_reducible apply Take.skip | with_reducible exact Take.pre _ _ | with_reducible apply Out.app)⟩
      · try simp only [decide_eq_true_eq, decide_eq_false_iff_not, Bool.not_eq_true', Bool.not_eq_false', beq_iff_eq, bne_iff_ne, beq_eq_false_iff_ne, bne_eq_false_iff_eq, Int.not_lt, Int.not_le, gt_iff_lt, ge_iff_le, ne_eq] at h2
        refine XL_skip 20 rfl rfl rfl rfl rfl ?_
        refine XL_skip 20 rfl rfl rfl rfl rfl ?_
        refine XL_skip 20 rfl rfl rfl rfl rfl ?_
        refine XL_skip 20 rfl rfl rfl rfl rfl ?_
        refine XL_det .no (D_pure rfl) rfl ?_
        refine XL_then ?_
        refine X_cond_f rfl rfl ?_
        refine X_skip ?_
        refine inBlk_normal ?_
        refine thenX_normal ?_
        refine X_region ?_
        refine XL_det .no (D_add rfl rfl (by omega) (by omega)) rfl ?_
        refine XL_det .no (D_pure rfl) rfl ?_
        refine XL_nil ?_
        refine loopQ_next (i + 1, a) ?_ ?_ ?_ ?_
        · (try dsimp only); exact ⟨by omega, by rw [ha, btw_f hg (fun e => by omega)], hao⟩
        · (try dsimp only); omega
        · refine ⟨?_, ?_, ?_, ?_, ?_, ?_, trivial⟩ <;> rfl
        · (try dsimp only); exact ⟨_, (by repeat first | with_reducible exact .nil _ | with_reducible exact .here _ _ | with_reducible exact Take.self _ | with_reducible apply Take.cons | with_reducible apply Out.there | with_reducible apply Take.skip | with_reducible exact Take.pre _ _ | with_reducible apply Out.app)⟩
    · try simp only [decide_eq_true_eq, decide_eq_false_iff_not, Bool.not_eq_true', Bool.not_eq_false', beq_iff_eq, bne_iff_ne, beq_eq_false_iff_ne, bne_eq_false_iff_eq, Int.not_lt, Int.not_le, gt_iff_lt, ge_iff_le, ne_eq] at h1
      obtain rfl : i = l.l.length := by omega
      rw [List.take_length] at ha
      refine X_exit ?_
      refine thenX_exit ?_
      refine loopQ_exit ?_
      refine inBlk_here ?_
      refine thenX_normal ?_
      refine X_seq ?_
      refine X_region ?_
      refine XL_det .no (D_pure rfl) rfl ?_
      refine XL_det .no (D_pure rfl) rfl ?_
      refine XL_then ?_
      refine X_ret ?_
      refine ret_ok (.nil _) (res_tmp rfl rfl) ?_
      exact ⟨[row (.slice a.oad a.l.length a.c) 36 4 a.l.length (a.l.flatMap encE), K], ⟨a, ⟨ha, hao⟩, rfl, rfl⟩, _, (by repeat first | with_reducible exact .nil _ | with_reducible exact .here _ _ | with_reducible exact Take.self _ | with_reducible apply Take.cons | with_reducible apply Out.there | with_reducible apply Take.skip | with_reducible exact Take.pre _ _ | with_reducible apply Out.app)⟩

theorem tof (k : Int) (l : Arr Ev) (hl : Rd K l.ad (l.l.flatMap encE)) (h5 : l.l.length ≤ 500) : Ctr Try.prog B 26 [.int .i64 k, .slice l.oad l.l.length l.c] [K] (fun v S => ∃ (x : Arr Int) (y : Arr Ev), ((x.l = (evL l.l k l.l.length).map (fun p => (p.1 : Int)) ∧ x.Own) ∧ y.l = (evL l.l k l.l.length).map (fun p => p.2) ∧ y.Own) ∧ v = .tuple #[x.v, y.v] ∧ S = [row (.slice x.oad x.l.length x.c) 3 1 x.l.length (x.l.flatMap encI), row (.slice y.oad y.l.length y.c) 36 4 y.l.length (y.l.flatMap encE)] ++ [K]) := by
  refine Ctr_of_X (N := 29) Try.func26 rfl (by simp) rfl ?_
  intro w0 D0
  refine X_seq ?_
  refine X_region ?_
  refine XL_det .no (D_pure rfl) rfl ?_
  refine XL_det .no (D_pure rfl) rfl ?_
  refine XL_then ?_
  refine X_seq ?_
  refine X_region ?_
  refine XL_alloc .no zero_22 rfl (fun b1 => ?_)
  refine XL_then ?_
  refine X_seq ?_
  refine X_region ?_
  refine XL_alloc .no zero_31 rfl (fun b2 => ?_)
  refine XL_then ?_
  refine X_seq ?_
  refine X_seq ?_
  refine X_region ?_
  refine XL_det .no (D_pure rfl) rfl ?_
  refine XL_det .no (D_pure rfl) rfl ?_
  refine XL_call .no en_39 rfl (trOf k l) (by repeat first | with_reducible exact .nil _ | with_reducible exact .here _ _ | with_reducible exact Take.self _ | with_reducible apply Take.cons | with_reducible apply Out.there | with_reducible apply Take.skip | with_reducible exact Take.pre _ _ | with_reducible apply Out.app) rfl ?_
  rintro _ _ ⟨bl, bk, rfl, rfl⟩
  simp only [List.cons_append, List.nil_append]
  refine XL_det .no (D_pure rfl) rfl ?_
  refine XL_then ?_
  refine X_seq ?_
  refine X_region ?_
  refine XL_det .no (D_pure rfl) rfl ?_
  refine XL_det .no (D_nef rfl rfl uf_83) rfl ?_
  refine XL_then ?_
  refine X_cond_t rfl rfl ?_
  refine X_seq ?_
  refine X_region ?_
  refine XL_det .no (D_pure rfl) rfl ?_
  refine XL_then ?_
  refine X_block ?_
  refine X_rowa encI 3 1 ?_
  refine X_rowa encE 36 4 ?_
  refine X_range (own := [blk bl [.slice l.oad l.l.length l.c] 31, blk bk [.int .i64 k] 34, K]) (S1 := [blk b1 [.slice none 0 0] 22, blk b2 [.slice none 0 0] 31, row (.slice (Arr.emp : Arr Int).oad (Arr.emp : Arr Int).l.length (Arr.emp : Arr Int).c) 3 1 (Arr.emp : Arr Int).l.length ((Arr.emp : Arr Int).l.flatMap encI), row (.slice (Arr.emp : Arr Ev).oad (Arr.emp : Arr Ev).l.length (Arr.emp : Arr Ev).c) 36 4 (Arr.emp : Arr Ev).l.length ((Arr.emp : Arr Ev).l.flatMap encE)]) rfl en_56 (trItr bl bk k l hl) (fun i S => ∃ (a : Arr Int) (c : Arr Ev), (a.l = ((evL l.l k l.l.length).take i).map (fun p => (p.1 : Int)) ∧ a.Own) ∧ (c.l = ((evL l.l k l.l.length).take i).map (fun p => p.2) ∧ c.Own) ∧ S = [blk b1 [.slice a.oad a.l.length a.c] 22, blk b2 [.slice c.oad c.l.length c.c] 31, row (.slice a.oad a.l.length a.c) 3 1 a.l.length (a.l.flatMap encI), row (.slice c.oad c.l.length c.c) 36 4 c.l.length (c.l.flatMap encE)]) (fun c i S => False) (show Take ([blk bl [.slice l.oad l.l.length l.c] 31, blk bk [.int .i64 k] 34, K, blk b1 [.slice none 0 0] 22, blk b2 [.slice none 0 0] 31, row (.slice (Arr.emp : Arr Int).oad (Arr.emp : Arr Int).l.length (Arr.emp : Arr Int).c) 3 1 (Arr.emp : Arr Int).l.length ((Arr.emp : Arr Int).l.flatMap encI), row (.slice (Arr.emp : Arr Ev).oad (Arr.emp : Arr Ev).l.length (Arr.emp : Arr Ev).c) 36 4 (Arr.emp : Arr Ev).l.length ((Arr.emp : Arr Ev).l.flatMap encE)]) _ _ from (by repeat first | with_reducible exact .nil _ | with_reducible exact .here _ _ | with_reducible exact Take.self _ | with_reducible apply Take.cons | with_reducible apply Out.there | with_reducible apply Take.skip | with_reducible exact Take.pre _ _ | with_reducible apply Out.app)) (⟨Arr.emp, Arr.emp, ⟨rfl, Arr.emp_own⟩, ⟨rfl, Arr.emp_own⟩, rfl⟩) rfl (fun x hx => by obtain ⟨y, _, rfl⟩ := List.mem_map.1 hx; rfl) ?_ ?_ ?_
  · intro ly rec A2 i S2 hi hJ
    obtain ⟨a, c, ⟨ha, hao⟩, ⟨hc, hco⟩, rfl⟩ := hJ
    rw [List.length_map] at hi
    obtain ⟨p, hp⟩ : ∃ p, (evL l.l k l.l.length)[i]? = some p := ⟨_, List.getElem?_eq_getElem hi⟩
    have hel := evL_len l.l k l.l.length
    have hal : a.l.length = i := by rw [ha, List.length_map, List.length_take]; omega
    have hcl : c.l.length = i := by rw [hc, List.length_map, List.length_take]; omega
    rw [evV_get hp]
    refine X_seq ?_
    refine X_region ?_
    refine XL_det .no (D_pure rfl) rfl ?_
    refine XL_then ?_
    refine X_region ?_
    refine XL_alloc (cs := encE zE) .no zero_36 rfl (fun b3 => ?_)
    refine XL_efd .no (F_stw (vs := encE p.2) rfl rfl (by rfl) (by repeat first | with_reducible exact .here _ _ | with_reducible apply Out.there | with_reducible apply Out.app) tk_36 rfl rfl) ?_
    refine XL_nil ?_
    refine ⟨rfl, _, _, .cons (by repeat first | with_reducible exact .here _ _ | with_reducible apply Out.there | with_reducible apply Out.app) (Take.self _), fun rec2 => ?_⟩
    refine X_block ?_
    refine X_draw [blk b1 [.slice a.oad a.l.length a.c] 22, blk b2 [.slice c.oad c.l.length c.c] 31, blk b3 (encE p.2) 36] mixed (by repeat first | with_reducible exact .nil _ | with_reducible exact .here _ _ | with_reducible exact Take.self _ | with_reducible apply Take.cons | with_reducible apply Out.there | with_reducible apply Take.skip | with_reducible exact Take.pre _ _ | with_reducible apply Out.app) ?_
    refine XA_det 0 rfl (by kernel_rfl) (by kernel_rfl) (by kernel_rfl) (by kernel_rfl) (fun _ _ _ _ h => h) .no (D_ldo rfl (by repeat first | with_reducible exact .here _ _ | with_reducible apply Out.there | with_reducible apply Out.app) tk_22 (by rfl)) rfl ?_
    refine XA_detp 1 rfl (by kernel_rfl) (by kernel_rfl) (by kernel_rfl) (fun _ _ _ _ h => h) .no (D_pureP rfl) rfl ?_
    refine XA_det 4 rfl (by kernel_rfl) (by kernel_rfl) (by kernel_rfl) (by kernel_rfl) (fun _ _ _ _ h => h) .no (D_ldo rfl (by repeat first | with_reducible exact .here _ _ | with_reducible apply Out.there | with_reducible apply Out.app) tk_31 (by rfl)) rfl ?_
    refine XA_det 5 rfl (by kernel_rfl) (by kernel_rfl) (by kernel_rfl) (by kernel_rfl) (fun _ _ _ _ h => h) .no (D_ldso (vs := encE p.2) rfl (by repeat first | with_reducible exact .here _ _ | with_reducible apply Out.there | with_reducible apply Out.app) tk_36 rfl (by rfl)) rfl ?_
    refine XA_two 2 6 (by kernel_rfl) ?_ ?_
    · skip
      refine XO_bslice (cs := encI (p.1 : Int)) rfl .no rfl slt_22 (by decide) (by decide) (by rfl) (by rfl) rfl rfl (fun bd21 => ?_)
      refine XA_two 3 6 (by kernel_rfl) ?_ ?_
      · skip
        refine XO_appa (enc := encI) (c := a) (b := (Arr.lit bd21 [(p.1 : Int)] (by simp))) rfl .no rfl rfl slt_22 (by repeat first | with_reducible exact .here _ _ | with_reducible apply Out.there | with_reducible apply Out.app) (by repeat first | exact .nil _ | apply App.cons) (by repeat first | with_reducible exact .here _ _ | with_reducible apply Out.there | with_reducible apply Out.app) (Rd_obj (cs := encI (p.1 : Int))) (fun _ => rfl) (fun _ => rfl) (by show a.l.length + 1 ≤ _; omega) (by show (a.l.length + 1) * _ ≤ _; omega) rfl (fun a2 ha2 ha2o => ?_)
        refine XA_one 6 (by kernel_rfl) ?_
        refine XO_bslice (cs := encE p.2) rfl .no rfl slt_31 (by decide) (by decide) (by rfl) (by rfl) rfl rfl (fun bd25 => ?_)
        refine XA_one 7 (by kernel_rfl) ?_
        refine XO_appa (enc := encE) (c := c) (b := (Arr.lit bd25 [p.2] (by simp))) rfl .no rfl rfl slt_31 (by repeat first | with_reducible exact .here _ _ | with_reducible apply Out.there | with_reducible apply Out.app) (by repeat first | exact .nil _ | apply App.cons) (by repeat first | with_reducible exact .here _ _ | with_reducible apply Out.there | with_reducible apply Out.app) (Rd_obj (cs := encE p.2)) (fun _ => rfl) (fun _ => rfl) (by show c.l.length + 1 ≤ _; omega) (by show (c.l.length + 1) * _ ≤ _; omega) rfl (fun c2 hc2 hc2o => ?_)
        refine XA_one 8 (by kernel_rfl) ?_
        refine XO_efd rfl .no (by repeat first | with_reducible exact .nil _ | with_reducible apply App.cons) (F_stl rfl rfl rfl (by repeat first | with_reducible exact .here _ _ | with_reducible apply Out.there | with_reducible apply Out.app) tk_22 (by repeat first | exact .zero _ _ _ | apply SetL.succ)) (by kernel_rfl) ?_
        refine XA_one 9 (by kernel_rfl) ?_
        refine XO_efd rfl .no (by repeat first | with_reducible exact .nil _ | with_reducible apply App.cons) (F_stl rfl rfl rfl (by repeat first | with_reducible exact .here _ _ | with_reducible apply Out.there | with_reducible apply Out.app) tk_31 (by repeat first | exact .zero _ _ _ | apply SetL.succ)) (by kernel_rfl) ?_
        refine XA_done (by kernel_rfl) ?_
        try simp only [List.cons_append, List.nil_append, List.append_nil]
        refine inBlk_normal ?_
        exact ⟨[blk b1 [.slice a2.oad a2.l.length a2.c] 22, blk b2 [.slice c2.oad c2.l.length c2.c] 31, row (.slice a2.oad a2.l.length a2.c) 3 1 a2.l.length (a2.l.flatMap encI), row (.slice c2.oad c2.l.length c2.c) 36 4 c2.l.length (c2.l.flatMap encE)], _, (by repeat first | with_reducible exact .nil _ | with_reducible exact .here _ _ | with_reducible exact Take.self _ | with_reducible apply Take.cons | with_reducible apply Out.there | with_reducible apply Take.skip | with_reducible exact Take.pre _ _ | with_reducible apply Out.app), ⟨a2, c2, ⟨by rw [ha2, ha, List.take_add_one, hp, List.map_append]; rfl, ha2o⟩, ⟨by rw [hc2, hc, List.take_add_one, hp, List.map_append]; rfl, hc2o⟩, rfl⟩⟩
      · skip
        refine XO_bslice (cs := encE p.2) rfl .no rfl slt_31 (by decide) (by decide) (by rfl) (by rfl) rfl rfl (fun bd25 => ?_)
        refine XA_one 3 (by kernel_rfl) ?_
        refine XO_appa (enc := encI) (c := a) (b := (Arr.lit bd21 [(p.1 : Int)] (by simp))) rfl .no rfl rfl slt_22 (by repeat first | with_reducible exact .here _ _ | with_reducible apply Out.there | with_reducible apply Out.app) (by repeat first | exact .nil _ | apply App.cons) (by repeat first | with_reducible exact .here _ _ | with_reducible apply Out.there | with_reducible apply Out.app) (Rd_obj (cs := encI (p.1 : Int))) (fun _ => rfl) (fun _ => rfl) (by show a.l.length + 1 ≤ _; omega) (by show (a.l.length + 1) * _ ≤ _; omega) rfl (fun a2 ha2 ha2o => ?_)
        refine XA_one 7 (by kernel_rfl) ?_
        refine XO_appa (enc := encE) (c := c) (b := (Arr.lit bd25 [p.2] (by simp))) rfl .no rfl rfl slt_31 (by repeat first | with_reducible exact .here _ _ | with_reducible apply Out.there | with_reducible apply Out.app) (by repeat first | exact .nil _ | apply App.cons) (by repeat first | with_reducible exact .here _ _ | with_reducible apply Out.there | with_reducible apply Out.app) (Rd_obj (cs := encE p.2)) (fun _ => rfl) (fun _ => rfl) (by show c.l.length + 1 ≤ _; omega) (by show (c.l.length + 1) * _ ≤ _; omega) rfl (fun c2 hc2 hc2o => ?_)
        refine XA_one 8 (by kernel_rfl) ?_
        refine XO_efd rfl .no (by repeat first | with_reducible exact .nil _ | with_reducible apply App.cons) (F_stl rfl rfl rfl (by repeat first | with_reducible exact .here _ _ | with_reducible apply Out.there | with_reducible apply Out.app) tk_22 (by repeat first | exact .zero _ _ _ | apply SetL.succ)) (by kernel_rfl) ?_
        refine XA_one 9 (by kernel_rfl) ?_
        refine XO_efd rfl .no (by repeat first | with_reducible exact .nil _ | with_reducible apply App.cons) (F_stl rfl rfl rfl (by repeat first | with_reducible exact .here _ _ | with_reducible apply Out.there | with_reducible apply Out.app) tk_31 (by repeat first | exact .zero _ _ _ | apply SetL.succ)) (by kernel_rfl) ?_
        refine XA_done (by kernel_rfl) ?_
        try simp only [List.cons_append, List.nil_append, List.append_nil]
        refine inBlk_normal ?_
        exact ⟨[blk b1 [.slice a2.oad a2.l.length a2.c] 22, blk b2 [.slice c2.oad c2.l.length c2.c] 31, row (.slice a2.oad a2.l.length a2.c) 3 1 a2.l.length (a2.l.flatMap encI), row (.slice c2.oad c2.l.length c2.c) 36 4 c2.l.length (c2.l.flatMap encE)], _, (by repeat first | with_reducible exact .nil _ | with_reducible exact .here _ _ | with_reducible exact Take.self _ | with_reducible apply Take.cons | with_reducible apply Out.there | with_reducible apply Take.skip | with_reducible exact Take.pre _ _ | with_reducible apply Out.app), ⟨a2, c2, ⟨by rw [ha2, ha, List.take_add_one, hp, List.map_append]; rfl, ha2o⟩, ⟨by rw [hc2, hc, List.take_add_one, hp, List.map_append]; rfl, hc2o⟩, rfl⟩⟩
    · skip
      refine XO_bslice (cs := encE p.2) rfl .no rfl slt_31 (by decide) (by decide) (by rfl) (by rfl) rfl rfl (fun bd25 => ?_)
      refine XA_one 2 (by kernel_rfl) ?_
      refine XO_bslice (cs := encI (p.1 : Int)) rfl .no rfl slt_22 (by decide) (by decide) (by rfl) (by rfl) rfl rfl (fun bd21 => ?_)
      refine XA_one 3 (by kernel_rfl) ?_
      refine XO_appa (enc := encI) (c := a) (b := (Arr.lit bd21 [(p.1 : Int)] (by simp))) rfl .no rfl rfl slt_22 (by repeat first | with_reducible exact .here _ _ | with_reducible apply Out.there | with_reducible apply Out.app) (by repeat first | exact .nil _ | apply App.cons) (by repeat first | with_reducible exact .here _ _ | with_reducible apply Out.there | with_reducible apply Out.app) (Rd_obj (cs := encI (p.1 : Int))) (fun _ => rfl) (fun _ => rfl) (by show a.l.length + 1 ≤ _; omega) (by show (a.l.length + 1) * _ ≤ _; omega) rfl (fun a2 ha2 ha2o => ?_)
      refine XA_one 7 (by kernel_rfl) ?_
      refine XO_appa (enc := encE) (c := c) (b := (Arr.lit bd25 [p.2] (by simp))) rfl .no rfl rfl slt_31 (by repeat first | with_reducible exact .here _ _ | with_reducible apply Out.there | with_reducible apply Out.app) (by repeat first | exact .nil _ | apply App.cons) (by repeat first | with_reducible exact .here _ _ | with_reducible apply Out.there | with_reducible apply Out.app) (Rd_obj (cs := encE p.2)) (fun _ => rfl) (fun _ => rfl) (by show c.l.length + 1 ≤ _; omega) (by show (c.l.length + 1) * _ ≤ _; omega) rfl (fun c2 hc2 hc2o => ?_)
      refine XA_one 8 (by kernel_rfl) ?_
      refine XO_efd rfl .no (by repeat first | with_reducible exact .nil _ | with_reducible apply App.cons) (F_stl rfl rfl rfl (by repeat first | with_reducible exact .here _ _ | with_reducible apply Out.there | with_reducible apply Out.app) tk_22 (by repeat first | exact .zero _ _ _ | apply SetL.succ)) (by kernel_rfl) ?_
      refine XA_one 9 (by kernel_rfl) ?_
      refine XO_efd rfl .no (by repeat first | with_reducible exact .nil _ | with_reducible apply App.cons) (F_stl rfl rfl rfl (by repeat first | with_reducible exact .here _ _ | with_reducible apply Out.there | with_reducible apply Out.app) tk_31 (by repeat first | exact .zero _ _ _ | apply SetL.succ)) (by kernel_rfl) ?_
      refine XA_done (by kernel_rfl) ?_
      try simp only [List.cons_append, List.nil_append, List.append_nil]
      refine inBlk_normal ?_
      exact ⟨[blk b1 [.slice a2.oad a2.l.length a2.c] 22, blk b2 [.slice c2.oad c2.l.length c2.c] 31, row (.slice a2.oad a2.l.length a2.c) 3 1 a2.l.length (a2.l.flatMap encI), row (.slice c2.oad c2.l.length c2.c) 36 4 c2.l.length (c2.l.flatMap encE)], _, (by repeat first | with_reducible exact .nil _ | with_reducible exact .here _ _ | with_reducible exact Take.self _ | with_reducible apply Take.cons | with_reducible apply Out.there | with_reducible apply Take.skip | with_reducible exact Take.pre _ _ | with_reducible apply Out.app), ⟨a2, c2, ⟨by rw [ha2, ha, List.take_add_one, hp, List.map_append]; rfl, ha2o⟩, ⟨by rw [hc2, hc, List.take_add_one, hp, List.map_append]; rfl, hc2o⟩, rfl⟩⟩
  · intro dd0 S2 hJ
    obtain ⟨a, c, ⟨ha, hao⟩, ⟨hc, hco⟩, rfl⟩ := hJ
    rw [List.length_map, List.take_length] at ha hc
    simp only [List.cons_append, List.nil_append]
    refine inBlk_normal ?_
    refine thenX_normal ?_
    refine X_seq ?_
    refine X_draw _ mixed (Take.self _) ?_
    refine XA_det 0 rfl (by kernel_rfl) (by kernel_rfl) (by kernel_rfl) (by kernel_rfl) (fun _ _ _ _ h => h) .no (D_ldo rfl (by repeat first | with_reducible exact .here _ _ | with_reducible apply Out.there | with_reducible apply Out.app) tk_22 (by rfl)) rfl ?_
    refine XA_det 1 rfl (by kernel_rfl) (by kernel_rfl) (by kernel_rfl) (by kernel_rfl) (fun _ _ _ _ h => h) .no (D_ldo rfl (by repeat first | with_reducible exact .here _ _ | with_reducible apply Out.there | with_reducible apply Out.app) tk_31 (by rfl)) rfl ?_
    refine XA_detp 2 rfl (by kernel_rfl) (by kernel_rfl) (by kernel_rfl) (fun _ _ _ _ h => h) .no (D_pureP rfl) rfl ?_
    refine XA_detp 3 rfl (by kernel_rfl) (by kernel_rfl) (by kernel_rfl) (fun _ _ _ _ h => h) .no (D_pureP rfl) rfl ?_
    refine XA_done (by kernel_rfl) ?_
    try simp only [List.cons_append, List.nil_append, List.append_nil]
    refine thenX_normal ?_
    refine X_ret ?_
    refine ret_ok (show Take [dfr dd0] _ _ from (by repeat first | with_reducible exact .nil _ | with_reducible exact .here _ _ | with_reducible exact Take.self _ | with_reducible apply Take.cons | with_reducible apply Out.there | with_reducible apply Take.skip | with_reducible exact Take.pre _ _ | with_reducible apply Out.app)) (res_tmp2 rfl rfl rfl) ?_
    exact ⟨[row (.slice a.oad a.l.length a.c) 3 1 a.l.length (a.l.flatMap encI), row (.slice c.oad c.l.length c.c) 36 4 c.l.length (c.l.flatMap encE), K], ⟨a, c, ⟨⟨ha, hao⟩, hc, hco⟩, rfl, rfl⟩, _, (by repeat first | with_reducible exact .nil _ | with_reducible exact .here _ _ | with_reducible exact Take.self _ | with_reducible apply Take.cons | with_reducible apply Out.there | with_reducible apply Take.skip | with_reducible exact Take.pre _ _ | with_reducible apply Out.app)⟩
  · intro dd0 c i S2 hi h
    exact h.elim

end Go.Proofs.Ytjcpggoodbkedaa
end

section
namespace Go.Proofs.Ytjcpggoodbkedaa
open Go Go.Sl
set_option linter.unusedVariables false
set_option linter.unusedSimpArgs false
set_option maxRecDepth 4000
variable {B : Nat} {K : Asrt B}
theorem en_26 : Go.Proofs.Enters Try.prog 26 := Go.Proofs.enters_of Try.func26 (by kernel_rfl) rfl
theorem en_27 : Go.Proofs.Enters Try.prog 27 := Go.Proofs.enters_of Try.func27 (by kernel_rfl) rfl
theorem en_28 : Go.Proofs.Enters Try.prog 28 := Go.Proofs.enters_of Try.func28 (by kernel_rfl) rfl
theorem fld_52_0 : fldOff Try.prog 52 0 = some 0 := by kernel_rfl
theorem fld_52_1 : fldOff Try.prog 52 1 = some 1 := by kernel_rfl
theorem traceLists (l : Arr Ev) (hl : Rd K l.ad (l.l.flatMap encE)) (k f t : Int) : Ctr Try.prog B 6 [.slice l.oad l.l.length l.c, .int .i64 k, .agg #[.int .i64 f, .int .i64 t]] [K] (fun v S => v = .bool true ∧ S = [K]) := by
  refine Ctr_of_X (N := 134) Try.func6 rfl (by simp) rfl ?_
  intro w0 D0
  refine X_seq ?_
  refine X_region ?_
  refine XL_box (cs := [.int .i64 f, .int .i64 t]) .no rfl rfl rfl (fun b1 => ?_)
  refine XL_det .no (D_pure rfl) rfl ?_
  refine XL_then ?_
  refine X_seq ?_
  refine X_seq ?_
  refine X_region ?_
  refine XL_det .no (D_pure rfl) rfl ?_
  refine XL_det .no (D_len rfl rfl slc_31) rfl ?_
  refine XL_det .no (D_pure rfl) rfl ?_
  refine XL_then ?_
  refine X_cond rfl (fun h1 => ?_) (fun h1 => ?_)
  · try simp only [decide_eq_true_eq, decide_eq_false_iff_not, Bool.not_eq_true', Bool.not_eq_false', beq_iff_eq, bne_iff_ne, beq_eq_false_iff_ne, bne_eq_false_iff_eq, Int.not_lt, Int.not_le, gt_iff_lt, ge_iff_le, ne_eq] at h1
    refine X_seq ?_
    refine X_region ?_
    refine XL_det .no (D_pure rfl) rfl ?_
    refine XL_then ?_
    refine X_ret ?_
    refine thenX_ret ?_
    refine ret_ok (.nil _) (res_tmp rfl rfl) ?_
    exact ⟨_, ⟨rfl, rfl⟩, _, (by repeat first | with_reducible exact .nil _ | with_reducible exact .here _ _ | with_reducible exact Take.self _ | with_reducible apply Take.cons | with_reducible apply Out.there | with_reducible apply Take.skip | with_reducible exact Take.pre _ _ | with_reducible apply Out.app)⟩
  · try simp only [decide_eq_true_eq, decide_eq_false_iff_not, Bool.not_eq_true', Bool.not_eq_false', beq_iff_eq, bne_iff_ne, beq_eq_false_iff_ne, bne_eq_false_iff_eq, Int.not_lt, Int.not_le, gt_iff_lt, ge_iff_le, ne_eq] at h1
    refine X_skip ?_
    refine thenX_normal ?_
    refine X_seq ?_
    refine X_region ?_
    refine XL_det .no (D_pure rfl) rfl ?_
    refine XL_then ?_
    refine X_seq ?_
    refine X_region ?_
    refine XL_det .no (D_pure rfl) rfl ?_
    refine XL_det .no (D_pure rfl) rfl ?_
    refine XL_call .no en_26 rfl (tof k l hl (by omega)) (by repeat first | with_reducible exact .nil _ | with_reducible exact .here _ _ | with_reducible exact Take.self _ | with_reducible apply Take.cons | with_reducible apply Out.there | with_reducible apply Take.skip | with_reducible exact Take.pre _ _ | with_reducible apply Out.app) rfl ?_
    rintro _ _ ⟨x, y, ⟨⟨hx, hxo⟩, hy, hyo⟩, rfl, rfl⟩
    simp only [List.cons_append, List.nil_append]
    refine XL_det .no (D_pure rfl) rfl ?_
    refine XL_det .no (D_pure (v := .slice x.oad x.l.length x.c) rfl) rfl ?_
    refine XL_det .no (D_pure (v := .slice y.oad y.l.length y.c) rfl) rfl ?_
    refine XL_det .no (D_pure rfl) rfl ?_
    refine XL_det .no (D_pure rfl) rfl ?_
    refine XL_then ?_
    refine X_seq ?_
    refine X_region ?_
    refine XL_det .no (D_fld rfl fld_52_0 (o' := 0) rfl) rfl ?_
    refine XL_det .no (D_ldo rfl (by repeat first | with_reducible exact .here _ _ | with_reducible apply Out.there | with_reducible apply Out.app) tk_3 (by rfl)) rfl ?_
    refine XL_det .no (D_fld rfl fld_52_1 (o' := 1) rfl) rfl ?_
    refine XL_det .no (D_ldo rfl (by repeat first | with_reducible exact .here _ _ | with_reducible apply Out.there | with_reducible apply Out.app) tk_3 (by rfl)) rfl ?_
    refine XL_det .no (D_pure rfl) rfl ?_
    refine XL_call .no en_27 rfl (tBetween f t l hl (by omega)) (by repeat first | with_reducible exact .nil _ | with_reducible exact .here _ _ | with_reducible exact Take.self _ | with_reducible apply Take.cons | with_reducible apply Out.there | with_reducible apply Take.skip | with_reducible exact Take.pre _ _ | with_reducible apply Out.app) rfl ?_
    rintro _ _ ⟨z, ⟨hz, hzo⟩, rfl, rfl⟩
    simp only [List.cons_append, List.nil_append]
    refine XL_det .no (D_pure rfl) rfl ?_
    refine XL_then ?_
    refine X_seq ?_
    refine X_region ?_
    refine XL_det .no (D_pure rfl) rfl ?_
    refine XL_det .no (D_pure rfl) rfl ?_
    refine XL_then ?_
    refine X_seq ?_
    refine X_seq ?_
    refine X_region ?_
    refine XL_det .no (D_pure rfl) rfl ?_
    refine XL_then ?_
    refine X_block ?_
    refine X_loop (α := Nat) (fun i => i ≤ l.l.length) (fun i => [(7, str (textE (l.l.take i))), (11, .int .i64 ((evL l.l k i).length : Int)), (12, .int .i64 ((btw f t (l.l.take i)).length : Int)), (13, .int .i64 (i : Int)), (0, .slice l.oad l.l.length l.c), (1, .int .i64 k), (5, .pointer (some ⟨b1, 0, none⟩)), (8, .slice x.oad x.l.length x.c), (9, .slice y.oad y.l.length y.c), (10, .slice z.oad z.l.length z.c)]) (fun i => [blk b1 [.int .i64 f, .int .i64 t] 52, row (.slice z.oad z.l.length z.c) 36 4 z.l.length (z.l.flatMap encE), row (.slice x.oad x.l.length x.c) 3 1 x.l.length (x.l.flatMap encI), row (.slice y.oad y.l.length y.c) 36 4 y.l.length (y.l.flatMap encE), K]) (fun i => l.l.length - i) 0 ?_ (by refine ⟨?_, ?_, ?_, ?_, ?_, ?_, ?_, ?_, ?_, ?_, trivial⟩ <;> rfl) (by repeat first | with_reducible exact .nil _ | with_reducible exact .here _ _ | with_reducible exact Take.self _ | with_reducible apply Take.cons | with_reducible apply Out.there | with_reducible apply Take.skip | with_reducible exact Take.pre _ _ | with_reducible apply Out.app) ?_
    · exact Nat.zero_le _
    · intro i hi
      have htl := textE_take l.l i
      have hel := evL_len l.l k i
      have hbl := btw_len f t l.l i
      refine X_seq ?_
      refine X_seq ?_
      refine X_region ?_
      refine XL_det .no (D_pure rfl) rfl ?_
      refine XL_det .no (D_pure rfl) rfl ?_
      refine XL_det .no (D_len rfl rfl slc_31) rfl ?_
      refine XL_det .no (D_pure rfl) rfl ?_
      refine XL_then ?_
      refine X_cond rfl (fun h2 => ?_) (fun h2 => ?_)
      · try simp only [decide_eq_true_eq, decide_eq_false_iff_not, Bool.not_eq_true', Bool.not_eq_false', beq_iff_eq, bne_iff_ne, beq_eq_false_iff_ne, bne_eq_false_iff_eq, Int.not_lt, Int.not_le, gt_iff_lt, ge_iff_le, ne_eq] at h2
        obtain ⟨e, hg⟩ : ∃ e, l.l[i]? = some e := ⟨_, List.getElem?_eq_getElem (by omega)⟩
        have hll := lineE_len e
        refine X_skip ?_
        refine thenX_normal ?_
        refine X_seq ?_
        refine X_block ?_
        refine X_seqj (α := Unit) (fun _ => True) (fun _ => [(7, str (textE (l.l.take (i + 1)))), (0, .slice l.oad l.l.length l.c), (1, .int .i64 k), (5, .pointer (some ⟨b1, 0, none⟩)), (8, .slice x.oad x.l.length x.c), (9, .slice y.oad y.l.length y.c), (10, .slice z.oad z.l.length z.c), (11, .int .i64 ((evL l.l k i).length : Int)), (12, .int .i64 ((btw f t (l.l.take i)).length : Int)), (13, .int .i64 (i : Int))]) (fun _ => [blk b1 [.int .i64 f, .int .i64 t] 52, row (.slice z.oad z.l.length z.c) 36 4 z.l.length (z.l.flatMap encE), row (.slice x.oad x.l.length x.c) 3 1 x.l.length (x.l.flatMap encI), row (.slice y.oad y.l.length y.c) 36 4 y.l.length (y.l.flatMap encE), K]) ?_ ?_
        · skip
          refine X_seq ?_
          refine X_region ?_
          refine XL_det .no (D_pure rfl) rfl ?_
          refine XL_det .no (D_pure rfl) rfl ?_
          refine XL_det .no (D_idxSo rfl rfl slc_31 (l).nil0 rfl (by omega) rfl) rfl ?_
          refine XL_det .no (D_els (enc := encE) (sz := 4) (i := i) (fun _ => rfl) rfl (by repeat first | with_reducible exact .here _ _ | with_reducible apply Out.there | with_reducible apply Out.app) hl tk_36 hg) rfl ?_
          refine XL_callv .no en_21 rfl (plain e) rfl ?_
          refine XL_callv .no en_20 rfl (rLine e) rfl ?_
          refine XL_det .no (D_pure rfl) rfl ?_
          refine XL_then ?_
          refine X_seq ?_
          refine X_region ?_
          refine XL_det .no (D_pure rfl) rfl ?_
          refine XL_det .no (D_seq (b := []) rfl rfl rfl) rfl ?_
          refine XL_then ?_
          refine X_cond rfl (fun h3 => ?_) (fun h3 => ?_)
          · try simp only [decide_eq_true_eq, decide_eq_false_iff_not, Bool.not_eq_true', Bool.not_eq_false', beq_iff_eq, bne_iff_ne, beq_eq_false_iff_ne, bne_eq_false_iff_eq, Int.not_lt, Int.not_le, gt_iff_lt, ge_iff_le, ne_eq] at h3
            refine X_region ?_
            refine XL_det .no (D_pure rfl) rfl ?_
            refine XL_det .no (D_pure rfl) rfl ?_
            refine XL_det .no (D_scat (b := [10]) rfl rfl (by simp only [List.length_append, List.length_cons, List.length_nil]; omega)) rfl ?_
            refine XL_det .no (D_scat rfl rfl (by simp only [List.length_append, List.length_cons, List.length_nil]; omega)) rfl ?_
            refine XL_det .no (D_pure rfl) rfl ?_
            refine XL_nil ?_
            refine joinQ_normal () ?_ ?_ ?_
            · trivial
            · refine ⟨by rw [textE_s hg, lnE_t h3]; rfl, ?_, ?_, ?_, ?_, ?_, ?_, ?_, ?_, ?_, trivial⟩ <;> rfl
            · exact ⟨_, (by repeat first | with_reducible exact .nil _ | with_reducible exact .here _ _ | with_reducible exact Take.self _ | with_reducible apply Take.cons | with_reducible apply Out.there | with_reducible apply Take.skip | with_reducible exact Take.pre _ _ | with_reducible apply Out.app)⟩
          · try simp only [decide_eq_true_eq, decide_eq_false_iff_not, Bool.not_eq_true', Bool.not_eq_false', beq_iff_eq, bne_iff_ne, beq_eq_false_iff_ne, bne_eq_false_iff_eq, Int.not_lt, Int.not_le, gt_iff_lt, ge_iff_le, ne_eq] at h3
            refine X_skip ?_
            refine joinQ_normal () ?_ ?_ ?_
            · trivial
            · refine ⟨by rw [textE_s hg, lnE_f h3, List.append_nil]; rfl, ?_, ?_, ?_, ?_, ?_, ?_, ?_, ?_, ?_, trivial⟩ <;> rfl
            · exact ⟨_, (by repeat first | with_reducible exact .nil _ | with_reducible exact .here _ _ | with_reducible exact Take.self _ | with_reducible apply Take.cons | with_reducible apply Out.there | with_reducible apply Take.skip | with_reducible exact Take.pre _ _ | with_reducible apply Out.app)⟩
        · rintro _ _
          refine X_seqj (α := Unit) (fun _ => True) (fun _ => [(11, .int .i64 ((evL l.l k (i + 1)).length : Int)), (0, .slice l.oad l.l.length l.c), (1, .int .i64 k), (5, .pointer (some ⟨b1, 0, none⟩)), (7, str (textE (l.l.take (i + 1)))), (8, .slice x.oad x.l.length x.c), (9, .slice y.oad y.l.length y.c), (10, .slice z.oad z.l.length z.c), (12, .int .i64 ((btw f t (l.l.take i)).length : Int)), (13, .int .i64 (i : Int))]) (fun _ => [blk b1 [.int .i64 f, .int .i64 t] 52, row (.slice z.oad z.l.length z.c) 36 4 z.l.length (z.l.flatMap encE), row (.slice x.oad x.l.length x.c) 3 1 x.l.length (x.l.flatMap encI), row (.slice y.oad y.l.length y.c) 36 4 y.l.length (y.l.flatMap encE), K]) ?_ ?_
          · skip
            refine X_seq ?_
            refine X_region ?_
            refine XL_det .no (D_pure rfl) rfl ?_
            refine XL_det .no (D_pure rfl) rfl ?_
            refine XL_det .no (D_idxSo rfl rfl slc_31 (l).nil0 rfl (by omega) rfl) rfl ?_
            refine XL_det .no (D_fldA rfl fld_36_1 rfl) rfl ?_
            refine XL_det .no (D_ela (enc := encE) (sz := 4) (i := i) (k := 1) (fun _ => rfl) rfl (by repeat first | with_reducible exact .here _ _ | with_reducible apply Out.there | with_reducible apply Out.app) hl tk_34 hg rfl) rfl ?_
            refine XL_det .no (D_pure rfl) rfl ?_
            refine XL_det .no (D_pure rfl) rfl ?_
            refine XL_then ?_
            refine X_cond rfl (fun h4 => ?_) (fun h4 => ?_)
            · try simp only [decide_eq_true_eq, decide_eq_false_iff_not, Bool.not_eq_true', Bool.not_eq_false', beq_iff_eq, bne_iff_ne, beq_eq_false_iff_ne, bne_eq_false_iff_eq, Int.not_lt, Int.not_le, gt_iff_lt, ge_iff_le, ne_eq] at h4
              obtain ⟨hn1, hn2⟩ := evL_get (by omega) hg h4
              have hxl : x.l.length = (evL l.l k l.l.length).length := by rw [hx, List.length_map]
              have hyl : y.l.length = (evL l.l k l.l.length).length := by rw [hy, List.length_map]
              have hgx : x.l[(evL l.l k i).length]? = some (i : Int) := by rw [hx, List.getElem?_map, hn2]; rfl
              have hgy : y.l[(evL l.l k i).length]? = some e := by rw [hy, List.getElem?_map, hn2]; rfl
              refine X_seq ?_
              refine X_seq ?_
              refine X_draw _ mixed (Take.self _) ?_
              refine XA_detp 0 rfl (by kernel_rfl) (by kernel_rfl) (by kernel_rfl) (fun _ _ _ _ h => h) .no (D_pureP rfl) rfl ?_
              refine XA_detp 1 rfl (by kernel_rfl) (by kernel_rfl) (by kernel_rfl) (fun _ _ _ _ h => h) .no (D_pureP rfl) rfl ?_
              refine XA_detp 2 rfl (by kernel_rfl) (by kernel_rfl) (by kernel_rfl) (fun _ _ _ _ h => h) .no (D_lenP rfl rfl slc_22) rfl ?_
              refine XA_detp 3 rfl (by kernel_rfl) (by kernel_rfl) (by kernel_rfl) (fun _ _ _ _ h => h) .no (D_pureP (v := .bool false) (geq_f (by omega))) rfl ?_
              refine XA_detp 4 rfl (by kernel_rfl) (by kernel_rfl) (by kernel_rfl) (fun _ _ _ _ h => h) .no (D_pureP rfl) rfl ?_
              refine XA_detp 5 rfl (by kernel_rfl) (by kernel_rfl) (by kernel_rfl) (fun _ _ _ _ h => h) (.yes 59 rfl rfl rfl) (D_pureP rfl) rfl ?_
              refine XA_detp 6 rfl (by kernel_rfl) (by kernel_rfl) (by kernel_rfl) (fun _ _ _ _ h => h) (.yes 59 rfl rfl rfl) (D_pureP rfl) rfl ?_
              refine XA_detp 7 rfl (by kernel_rfl) (by kernel_rfl) (by kernel_rfl) (fun _ _ _ _ h => h) (.yes 59 rfl rfl rfl) (D_idxSoP rfl rfl slc_22 (x).nil0 rfl (by omega) rfl) rfl ?_
              refine XA_det 8 rfl (by kernel_rfl) (by kernel_rfl) (by kernel_rfl) (by kernel_rfl) (fun _ _ _ _ h => h) (.yes 59 rfl rfl rfl) (D_ela (enc := encI) (sz := 1) (i := (evL l.l k i).length) (k := 0) (fun _ => rfl) rfl (by repeat first | with_reducible exact .here _ _ | with_reducible apply Out.there | with_reducible apply Out.app) (Rd_own hxo rfl) tk_3 hgx rfl) rfl ?_
              refine XA_detp 9 rfl (by kernel_rfl) (by kernel_rfl) (by kernel_rfl) (fun _ _ _ _ h => h) (.yes 59 rfl rfl rfl) (D_pureP rfl) rfl ?_
              refine XA_detp 10 rfl (by kernel_rfl) (by kernel_rfl) (by kernel_rfl) (fun _ _ _ _ h => h) (.yes 59 rfl rfl rfl) (D_pureP (v := .bool false) (neq_f rfl)) rfl ?_
              refine XA_detp 11 rfl (by kernel_rfl) (by kernel_rfl) (by kernel_rfl) (fun _ _ _ _ h => h) .no (D_pureP rfl) rfl ?_
              refine XA_detp 12 rfl (by kernel_rfl) (by kernel_rfl) (by kernel_rfl) (fun _ _ _ _ h => h) .no (D_pureP rfl) rfl ?_
              refine XA_detp 13 rfl (by kernel_rfl) (by kernel_rfl) (by kernel_rfl) (fun _ _ _ _ h => h) (.yes 67 rfl rfl rfl) (D_pureP rfl) rfl ?_
              refine XA_detp 14 rfl (by kernel_rfl) (by kernel_rfl) (by kernel_rfl) (fun _ _ _ _ h => h) (.yes 67 rfl rfl rfl) (D_pureP rfl) rfl ?_
              refine XA_detp 15 rfl (by kernel_rfl) (by kernel_rfl) (by kernel_rfl) (fun _ _ _ _ h => h) (.yes 67 rfl rfl rfl) (D_idxSoP rfl rfl slc_31 (y).nil0 rfl (by omega) rfl) rfl ?_
              refine XA_det 16 rfl (by kernel_rfl) (by kernel_rfl) (by kernel_rfl) (by kernel_rfl) (fun _ _ _ _ h => h) (.yes 67 rfl rfl rfl) (D_els (enc := encE) (sz := 4) (i := (evL l.l k i).length) (fun _ => rfl) rfl (by repeat first | with_reducible exact .here _ _ | with_reducible apply Out.there | with_reducible apply Out.app) (Rd_own hyo rfl) tk_36 hgy) rfl ?_
              refine XA_detp 17 rfl (by kernel_rfl) (by kernel_rfl) (by kernel_rfl) (fun _ _ _ _ h => h) (.yes 67 rfl rfl rfl) (D_pureP rfl) rfl ?_
              refine XA_detp 18 rfl (by kernel_rfl) (by kernel_rfl) (by kernel_rfl) (fun _ _ _ _ h => h) (.yes 67 rfl rfl rfl) (D_pureP rfl) rfl ?_
              refine XA_detp 19 rfl (by kernel_rfl) (by kernel_rfl) (by kernel_rfl) (fun _ _ _ _ h => h) (.yes 67 rfl rfl rfl) (D_idxSoP rfl rfl slc_31 (l).nil0 rfl (by omega) rfl) rfl ?_
              refine XA_det 20 rfl (by kernel_rfl) (by kernel_rfl) (by kernel_rfl) (by kernel_rfl) (fun _ _ _ _ h => h) (.yes 67 rfl rfl rfl) (D_els (enc := encE) (sz := 4) (i := i) (fun _ => rfl) rfl (by repeat first | with_reducible exact .here _ _ | with_reducible apply Out.there | with_reducible apply Out.app) hl tk_36 hg) rfl ?_
              refine XA_det 21 rfl (by kernel_rfl) (by kernel_rfl) (by kernel_rfl) (by kernel_rfl) (fun _ _ _ _ h => h) (.yes 67 rfl rfl rfl) (D_eqs (b := false) rfl rfl eqk_36 eqg_36 rfl rfl rfl (by show (!cellsEq _ _) = false; rw [ev_same]; rfl)) rfl ?_
              refine XA_detp 22 rfl (by kernel_rfl) (by kernel_rfl) (by kernel_rfl) (fun _ _ _ _ h => h) .no (D_pureP rfl) rfl ?_
              refine XA_done (by kernel_rfl) ?_
              try simp only [List.cons_append, List.nil_append, List.append_nil]
              refine thenX_normal ?_
              refine X_cond_f rfl rfl ?_
              refine X_skip ?_
              refine thenX_normal ?_
              refine X_region ?_
              refine XL_det .no (D_pure rfl) rfl ?_
              refine XL_det .no (D_add rfl rfl (by omega) (by omega)) rfl ?_
              refine XL_det .no (D_pure rfl) rfl ?_
              refine XL_nil ?_
              refine joinQ_normal () ?_ ?_ ?_
              · trivial
              · refine ⟨by rw [evL_t hg h4, List.length_append]; rfl, ?_, ?_, ?_, ?_, ?_, ?_, ?_, ?_, ?_, trivial⟩ <;> rfl
              · exact ⟨_, (by repeat first | with_reducible exact .nil _ | with_reducible exact .here _ _ | with_reducible exact Take.self _ | with_reducible apply Take.cons | with_reducible apply Out.there | with_reducible apply Take.skip | with_reducible exact Take.pre _ _ | with_reducible apply Out.app)⟩
            · try simp only [decide_eq_true_eq, decide_eq_false_iff_not, Bool.not_eq_true', Bool.not_eq_false', beq_iff_eq, bne_iff_ne, beq_eq_false_iff_ne, bne_eq_false_iff_eq, Int.not_lt, Int.not_le, gt_iff_lt, ge_iff_le, ne_eq] at h4
              refine X_skip ?_
              refine joinQ_normal () ?_ ?_ ?_
              · trivial
              · refine ⟨by rw [evL_f hg h4]; rfl, ?_, ?_, ?_, ?_, ?_, ?_, ?_, ?_, ?_, trivial⟩ <;> rfl
              · exact ⟨_, (by repeat first | with_reducible exact .nil _ | with_reducible exact .here _ _ | with_reducible exact Take.self _ | with_reducible apply Take.cons | with_reducible apply Out.there | with_reducible apply Take.skip | with_reducible exact Take.pre _ _ | with_reducible apply Out.app)⟩
          · rintro _ _
            refine X_seq ?_
            refine X_draw _ mixed (Take.self _) ?_
            refine XA_detp 0 rfl (by kernel_rfl) (by kernel_rfl) (by kernel_rfl) (fun _ _ _ _ h => h) .no (D_pureP rfl) rfl ?_
            refine XA_detp 1 rfl (by kernel_rfl) (by kernel_rfl) (by kernel_rfl) (fun _ _ _ _ h => h) .no (D_pureP rfl) rfl ?_
            refine XA_detp 2 rfl (by kernel_rfl) (by kernel_rfl) (by kernel_rfl) (fun _ _ _ _ h => h) .no (D_idxSoP rfl rfl slc_31 (l).nil0 rfl (by omega) rfl) rfl ?_
            refine XA_detp 3 rfl (by kernel_rfl) (by kernel_rfl) (by kernel_rfl) (fun _ _ _ _ h => h) .no (D_fldAP rfl fld_36_0 rfl) rfl ?_
            refine XA_det 4 rfl (by kernel_rfl) (by kernel_rfl) (by kernel_rfl) (by kernel_rfl) (fun _ _ _ _ h => h) .no (D_ela (enc := encE) (sz := 4) (i := i) (k := 0) (fun _ => rfl) rfl (by repeat first | with_reducible exact .here _ _ | with_reducible apply Out.there | with_reducible apply Out.app) hl tk_3 hg rfl) rfl ?_
            refine XA_detp 5 rfl (by kernel_rfl) (by kernel_rfl) (by kernel_rfl) (fun _ _ _ _ h => h) .no (D_fldP rfl fld_52_0 (o' := 0) rfl) rfl ?_
            refine XA_det 6 rfl (by kernel_rfl) (by kernel_rfl) (by kernel_rfl) (by kernel_rfl) (fun _ _ _ _ h => h) .no (D_ldo rfl (by repeat first | with_reducible exact .here _ _ | with_reducible apply Out.there | with_reducible apply Out.app) tk_3 (by rfl)) rfl ?_
            refine XA_detp 7 rfl (by kernel_rfl) (by kernel_rfl) (by kernel_rfl) (fun _ _ _ _ h => h) .no (D_pureP rfl) rfl ?_
            refine XA_detp 8 rfl (by kernel_rfl) (by kernel_rfl) (by kernel_rfl) (fun _ _ _ _ h => h) .no (D_pureP rfl) rfl ?_
            refine XA_split (t := 88) rfl (fun h5 => ?_) (fun h5 => ?_)
            · try simp only [decide_eq_true_eq, decide_eq_false_iff_not, Bool.not_eq_true', Bool.not_eq_false', beq_iff_eq, bne_iff_ne, beq_eq_false_iff_ne, bne_eq_false_iff_eq, Int.not_lt, Int.not_le, gt_iff_lt, ge_iff_le, ne_eq] at h5
              refine XA_detp 9 rfl (by kernel_rfl) (by kernel_rfl) (by kernel_rfl) (fun _ _ _ _ h => h) (.yes 88 rfl rfl rfl) (D_pureP rfl) rfl ?_
              refine XA_detp 10 rfl (by kernel_rfl) (by kernel_rfl) (by kernel_rfl) (fun _ _ _ _ h => h) (.yes 88 rfl rfl rfl) (D_pureP rfl) rfl ?_
              refine XA_detp 11 rfl (by kernel_rfl) (by kernel_rfl) (by kernel_rfl) (fun _ _ _ _ h => h) (.yes 88 rfl rfl rfl) (D_idxSoP rfl rfl slc_31 (l).nil0 rfl (by omega) rfl) rfl ?_
              refine XA_detp 12 rfl (by kernel_rfl) (by kernel_rfl) (by kernel_rfl) (fun _ _ _ _ h => h) (.yes 88 rfl rfl rfl) (D_fldAP rfl fld_36_0 rfl) rfl ?_
              refine XA_det 13 rfl (by kernel_rfl) (by kernel_rfl) (by kernel_rfl) (by kernel_rfl) (fun _ _ _ _ h => h) (.yes 88 rfl rfl rfl) (D_ela (enc := encE) (sz := 4) (i := i) (k := 0) (fun _ => rfl) rfl (by repeat first | with_reducible exact .here _ _ | with_reducible apply Out.there | with_reducible apply Out.app) hl tk_3 hg rfl) rfl ?_
              refine XA_detp 14 rfl (by kernel_rfl) (by kernel_rfl) (by kernel_rfl) (fun _ _ _ _ h => h) (.yes 88 rfl rfl rfl) (D_fldP rfl fld_52_1 (o' := 1) rfl) rfl ?_
              refine XA_det 15 rfl (by kernel_rfl) (by kernel_rfl) (by kernel_rfl) (by kernel_rfl) (fun _ _ _ _ h => h) (.yes 88 rfl rfl rfl) (D_ldo rfl (by repeat first | with_reducible exact .here _ _ | with_reducible apply Out.there | with_reducible apply Out.app) tk_3 (by rfl)) rfl ?_
              refine XA_detp 16 rfl (by kernel_rfl) (by kernel_rfl) (by kernel_rfl) (fun _ _ _ _ h => h) (.yes 88 rfl rfl rfl) (D_pureP rfl) rfl ?_
              refine XA_detp 17 rfl (by kernel_rfl) (by kernel_rfl) (by kernel_rfl) (fun _ _ _ _ h => h) .no (D_pureP rfl) rfl ?_
              refine XA_done (by kernel_rfl) ?_
              try simp only [List.cons_append, List.nil_append, List.append_nil]
              refine thenX_normal ?_
              refine X_cond rfl (fun h6 => ?_) (fun h6 => ?_)
              · try simp only [decide_eq_true_eq, decide_eq_false_iff_not, Bool.not_eq_true', Bool.not_eq_false', beq_iff_eq, bne_iff_ne, beq_eq_false_iff_ne, bne_eq_false_iff_eq, Int.not_lt, Int.not_le, gt_iff_lt, ge_iff_le, ne_eq] at h6
                obtain ⟨hm1, hm2⟩ := btw_get hg ⟨h5, h6⟩
                have hgz : z.l[(btw f t (l.l.take i)).length]? = some e := by rw [hz]; exact hm2
                have hzl : z.l.length = (btw f t l.l).length := by rw [hz]
                refine X_seq ?_
                refine X_seq ?_
                refine X_draw _ mixed (Take.self _) ?_
                refine XA_detp 0 rfl (by kernel_rfl) (by kernel_rfl) (by kernel_rfl) (fun _ _ _ _ h => h) .no (D_pureP rfl) rfl ?_
                refine XA_detp 1 rfl (by kernel_rfl) (by kernel_rfl) (by kernel_rfl) (fun _ _ _ _ h => h) .no (D_pureP rfl) rfl ?_
                refine XA_detp 2 rfl (by kernel_rfl) (by kernel_rfl) (by kernel_rfl) (fun _ _ _ _ h => h) .no (D_lenP rfl rfl slc_31) rfl ?_
                refine XA_detp 3 rfl (by kernel_rfl) (by kernel_rfl) (by kernel_rfl) (fun _ _ _ _ h => h) .no (D_pureP (v := .bool false) (geq_f (by rw [hz]; omega))) rfl ?_
                refine XA_detp 4 rfl (by kernel_rfl) (by kernel_rfl) (by kernel_rfl) (fun _ _ _ _ h => h) .no (D_pureP rfl) rfl ?_
                refine XA_detp 5 rfl (by kernel_rfl) (by kernel_rfl) (by kernel_rfl) (fun _ _ _ _ h => h) (.yes 102 rfl rfl rfl) (D_pureP rfl) rfl ?_
                refine XA_detp 6 rfl (by kernel_rfl) (by kernel_rfl) (by kernel_rfl) (fun _ _ _ _ h => h) (.yes 102 rfl rfl rfl) (D_pureP rfl) rfl ?_
                refine XA_detp 7 rfl (by kernel_rfl) (by kernel_rfl) (by kernel_rfl) (fun _ _ _ _ h => h) (.yes 102 rfl rfl rfl) (D_idxSoP rfl rfl slc_31 (z).nil0 rfl (by omega) rfl) rfl ?_
                refine XA_det 8 rfl (by kernel_rfl) (by kernel_rfl) (by kernel_rfl) (by kernel_rfl) (fun _ _ _ _ h => h) (.yes 102 rfl rfl rfl) (D_els (enc := encE) (sz := 4) (i := (btw f t (l.l.take i)).length) (fun _ => rfl) rfl (by repeat first | with_reducible exact .here _ _ | with_reducible apply Out.there | with_reducible apply Out.app) (Rd_own hzo rfl) tk_36 hgz) rfl ?_
                refine XA_detp 9 rfl (by kernel_rfl) (by kernel_rfl) (by kernel_rfl) (fun _ _ _ _ h => h) (.yes 102 rfl rfl rfl) (D_pureP rfl) rfl ?_
                refine XA_detp 10 rfl (by kernel_rfl) (by kernel_rfl) (by kernel_rfl) (fun _ _ _ _ h => h) (.yes 102 rfl rfl rfl) (D_pureP rfl) rfl ?_
                refine XA_detp 11 rfl (by kernel_rfl) (by kernel_rfl) (by kernel_rfl) (fun _ _ _ _ h => h) (.yes 102 rfl rfl rfl) (D_idxSoP rfl rfl slc_31 (l).nil0 rfl (by omega) rfl) rfl ?_
                refine XA_det 12 rfl (by kernel_rfl) (by kernel_rfl) (by kernel_rfl) (by kernel_rfl) (fun _ _ _ _ h => h) (.yes 102 rfl rfl rfl) (D_els (enc := encE) (sz := 4) (i := i) (fun _ => rfl) rfl (by repeat first | with_reducible exact .here _ _ | with_reducible apply Out.there | with_reducible apply Out.app) hl tk_36 hg) rfl ?_
                refine XA_det 13 rfl (by kernel_rfl) (by kernel_rfl) (by kernel_rfl) (by kernel_rfl) (fun _ _ _ _ h => h) (.yes 102 rfl rfl rfl) (D_eqs (b := false) rfl rfl eqk_36 eqg_36 rfl rfl rfl (by show (!cellsEq _ _) = false; rw [ev_same]; rfl)) rfl ?_
                refine XA_detp 14 rfl (by kernel_rfl) (by kernel_rfl) (by kernel_rfl) (fun _ _ _ _ h => h) .no (D_pureP rfl) rfl ?_
                refine XA_done (by kernel_rfl) ?_
                try simp only [List.cons_append, List.nil_append, List.append_nil]
                refine thenX_normal ?_
                refine X_cond_f rfl rfl ?_
                refine X_skip ?_
                refine thenX_normal ?_
                refine X_region ?_
                refine XL_det .no (D_pure rfl) rfl ?_
                refine XL_det .no (D_add rfl rfl (by omega) (by omega)) rfl ?_
                refine XL_det .no (D_pure rfl) rfl ?_
                refine XL_nil ?_
                refine inBlk_normal ?_
                refine thenX_normal ?_
                refine X_region ?_
                refine XL_det .no (D_pure rfl) rfl ?_
                refine XL_det .no (D_add rfl rfl (by omega) (by omega)) rfl ?_
                refine XL_det .no (D_pure rfl) rfl ?_
                refine XL_nil ?_
                refine loopQ_next (i + 1) ?_ ?_ ?_ ?_
                · omega
                · omega
                · refine ⟨?_, ?_, by rw [btw_t hg ⟨h5, h6⟩, List.length_append]; rfl, ?_, ?_, ?_, ?_, ?_, ?_, ?_, trivial⟩ <;> rfl
                · exact ⟨_, (by repeat first | with_reducible exact .nil _ | with_reducible exact .here _ _ | with_reducible exact Take.self _ | with_reducible apply Take.cons | with_reducible apply Out.there | with_reducible apply Take.skip | with_reducible exact Take.pre _ _ | with_reducible apply Out.app)⟩
              · try simp only [decide_eq_true_eq, decide_eq_false_iff_not, Bool.not_eq_true', Bool.not_eq_false', beq_iff_eq, bne_iff_ne, beq_eq_false_iff_ne, bne_eq_false_iff_eq, Int.not_lt, Int.not_le, gt_iff_lt, ge_iff_le, ne_eq] at h6
                refine X_skip ?_
                refine inBlk_normal ?_
                refine thenX_normal ?_
                refine X_region ?_
                refine XL_det .no (D_pure rfl) rfl ?_
                refine XL_det .no (D_add rfl rfl (by omega) (by omega)) rfl ?_
                refine XL_det .no (D_pure rfl) rfl ?_
                refine XL_nil ?_
                refine loopQ_next (i + 1) ?_ ?_ ?_ ?_
                · omega
                · omega
                · refine ⟨?_, ?_, by rw [btw_f hg (fun e => by omega)]; rfl, ?_, ?_, ?_, ?_, ?_, ?_, ?_, trivial⟩ <;> rfl
                · exact ⟨_, (by repeat first | with_reducible exact .nil _ | with_reducible exact .here _ _ | with_reducible exact Take.self _ | with_reducible apply Take.cons | with_reducible apply Out.there | with_reducible apply Take.skip | with_reducible exact Take.pre _ _ | with_reducible apply Out.app)⟩
            · try simp only [decide_eq_true_eq, decide_eq_false_iff_not, Bool.not_eq_true', Bool.not_eq_false', beq_iff_eq, bne_iff_ne, beq_eq_false_iff_ne, bne_eq_false_iff_eq, Int.not_lt, Int.not_le, gt_iff_lt, ge_iff_le, ne_eq] at h5
              refine XA_skipp 9 88 rfl (by kernel_rfl) (by kernel_rfl) (by kernel_rfl) (fun _ _ _ _ h => h) rfl rfl rfl rfl rfl ?_
              refine XA_skipp 10 88 rfl (by kernel_rfl) (by kernel_rfl) (by kernel_rfl) (fun _ _ _ _ h => h) rfl rfl rfl rfl rfl ?_
              refine XA_skipp 11 88 rfl (by kernel_rfl) (by kernel_rfl) (by kernel_rfl) (fun _ _ _ _ h => h) rfl rfl rfl rfl rfl ?_
              refine XA_skipp 12 88 rfl (by kernel_rfl) (by kernel_rfl) (by kernel_rfl) (fun _ _ _ _ h => h) rfl rfl rfl rfl rfl ?_
              refine XA_skipp 13 88 rfl (by kernel_rfl) (by kernel_rfl) (by kernel_rfl) (fun _ _ _ _ h => h) rfl rfl rfl rfl rfl ?_
              refine XA_skipp 14 88 rfl (by kernel_rfl) (by kernel_rfl) (by kernel_rfl) (fun _ _ _ _ h => h) rfl rfl rfl rfl rfl ?_
              refine XA_skipp 15 88 rfl (by kernel_rfl) (by kernel_rfl) (by kernel_rfl) (fun _ _ _ _ h => h) rfl rfl rfl rfl rfl ?_
              refine XA_skipp 16 88 rfl (by kernel_rfl) (by kernel_rfl) (by kernel_rfl) (fun _ _ _ _ h => h) rfl rfl rfl rfl rfl ?_
              refine XA_detp 17 rfl (by kernel_rfl) (by kernel_rfl) (by kernel_rfl) (fun _ _ _ _ h => h) .no (D_pureP rfl) rfl ?_
              refine XA_done (by kernel_rfl) ?_
              try simp only [List.cons_append, List.nil_append, List.append_nil]
              refine thenX_normal ?_
              refine X_cond_f rfl rfl ?_
              refine X_skip ?_
              refine inBlk_normal ?_
              refine thenX_normal ?_
              refine X_region ?_
              refine XL_det .no (D_pure rfl) rfl ?_
              refine XL_det .no (D_add rfl rfl (by omega) (by omega)) rfl ?_
              refine XL_det .no (D_pure rfl) rfl ?_
              refine XL_nil ?_
              refine loopQ_next (i + 1) ?_ ?_ ?_ ?_
              · omega
              · omega
              · refine ⟨?_, ?_, by rw [btw_f hg (fun e => by omega)]; rfl, ?_, ?_, ?_, ?_, ?_, ?_, ?_, trivial⟩ <;> rfl
              · exact ⟨_, (by repeat first | with_reducible exact .nil _ | with_reducible exact .here _ _ | with_reducible exact Take.self _ | with_reducible apply Take.cons | with_reducible apply Out.there | with_reducible apply Take.skip | with_reducible exact Take.pre _ _ | with_reducible apply Out.app)⟩
      · try simp only [decide_eq_true_eq, decide_eq_false_iff_not, Bool.not_eq_true', Bool.not_eq_false', beq_iff_eq, bne_iff_ne, beq_eq_false_iff_ne, bne_eq_false_iff_eq, Int.not_lt, Int.not_le, gt_iff_lt, ge_iff_le, ne_eq] at h2
        have hil : i = l.l.length := by omega
        refine X_exit ?_
        refine thenX_exit ?_
        refine loopQ_exit ?_
        refine inBlk_here ?_
        refine thenX_normal ?_
        refine X_seq ?_
        refine X_region ?_
        refine XL_det .no (D_pure rfl) rfl ?_
        refine XL_callk .no en_28 rfl (tText l hl (by omega)) (by repeat first | with_reducible exact .nil _ | with_reducible exact .here _ _ | with_reducible exact Take.self _ | with_reducible apply Take.cons | with_reducible apply Out.there | with_reducible apply Take.skip | with_reducible exact Take.pre _ _ | with_reducible apply Out.app) rfl ?_
        refine XL_det .no (D_pure rfl) rfl ?_
        refine XL_det .no (D_seq (q := true) rfl rfl (by show (_ == _) = true; rw [hil, List.take_length]; exact beq_self_eq_true _)) rfl ?_
        refine XL_det .no (D_pure rfl) rfl ?_
        refine XL_det (.yes 119 rfl rfl rfl) (D_pure rfl) rfl ?_
        refine XL_det (.yes 119 rfl rfl rfl) (D_pure rfl) rfl ?_
        refine XL_det (.yes 119 rfl rfl rfl) (D_len rfl rfl slc_22) rfl ?_
        refine XL_det (.yes 119 rfl rfl rfl) (D_pure (v := .bool true) (bt (by rw [hil, hx, List.length_map]))) rfl ?_
        refine XL_det .no (D_pure rfl) rfl ?_
        refine XL_det .no (D_pure rfl) rfl ?_
        refine XL_det (.yes 125 rfl rfl rfl) (D_pure rfl) rfl ?_
        refine XL_det (.yes 125 rfl rfl rfl) (D_pure rfl) rfl ?_
        refine XL_det (.yes 125 rfl rfl rfl) (D_len rfl rfl slc_31) rfl ?_
        refine XL_det (.yes 125 rfl rfl rfl) (D_pure (v := .bool true) (bt (by rw [hil, List.take_length, hz]))) rfl ?_
        refine XL_det .no (D_pure rfl) rfl ?_
        refine XL_det .no (D_pure rfl) rfl ?_
        refine XL_callv (.yes 131 rfl rfl rfl) en_25 rfl (alive31) rfl ?_
        refine XL_det .no (D_pure rfl) rfl ?_
        refine XL_det .no (D_pure rfl) rfl ?_
        refine XL_then ?_
        refine X_ret ?_
        refine ret_ok (.nil _) (res_tmp rfl rfl) ?_
        exact ⟨_, ⟨rfl, rfl⟩, _, (by repeat first | with_reducible exact .nil _ | with_reducible exact .here _ _ | with_reducible exact Take.self _ | with_reducible apply Take.cons | with_reducible apply Out.there | with_reducible apply Take.skip | with_reducible exact Take.pre _ _ | with_reducible apply Out.app)⟩

end Go.Proofs.Ytjcpggoodbkedaa
end

section
namespace Go.Proofs.Ytjcpggoodbkedaa
open Go Go.Sl Go.ChangeShapes Go.WideShapes Go.ChangeAt Go.RowKit
set_option linter.unusedVariables false
set_option maxRecDepth 20000
theorem own : ownKnob Try.prog.godebug = none := by kernel_rfl
theorem laidOut : laidOutB Try.prog = true := by kernel_rfl

theorem sl_ev : slcOf Try.prog 31 = some (36, 4) := by kernel_rfl
theorem sz_ev : (Try.prog.info? 36).map (·.size) = some 4 := by kernel_rfl
theorem open_ev {W : World} {n : Nat} {H : Type} {enc : TypeId × Value → H} {cs : List Value} {x : DataW H × List MemPlace} (hx : DataW.trod enc Try.prog W 0 (fun _ => true) true n 36 cs = some x) : ∃ o : Ev, cs = encE o ∧ True := by
  obtain ⟨e, h, hf⟩ := flat_dec eqk_36 sz_ev hx
  exact ⟨⟨e 0, e 1, e 2, e 3⟩, h, trivial⟩
theorem eqk_52 : eqKinds Try.prog 12 52 = some [some .i64, some .i64] := by kernel_rfl
theorem sz_t : (Try.prog.info? 52).map (·.size) = some 2 := by kernel_rfl
theorem uk_int : Try.prog.underlying 34 = some (.int .i64) := by kernel_rfl

/-- The walk, at the arguments as the row reads them. -/
theorem walkTraceLists (W : World) (args : Array Value) (h : ArgsOk Try.prog W Try.f6.params.toList args.toList) : Calls Try.prog 6 args W fun e w' => e = .returned (.bool true) ∧ Go.RowKit.Below W.heap.size W w' := by
  rw [show Try.f6.params.toList = [31, 34, 52] from by kernel_rfl] at h
  obtain ⟨args⟩ := args
  match args, h with
  | [v0, v1, v2], h =>
    obtain ⟨a0, a1, a2, _⟩ := h
    obtain ⟨l, rfl, _, hl⟩ := arg_arr (encA := encE) (ok := fun _ => True) sl_ev (by decide) a0 (fun n cs x hx => open_ev hx)
    obtain ⟨k, rfl, _⟩ := arg_int uk_int a1
    obtain ⟨e, rfl, _⟩ := arg_flat eqk_52 sz_t (by kernel_rfl) a2
    exact calls_of (old_self W) ((traceLists l hl k (e 0) (e 1)).mono fun _ _ h => h.1)

set_option maxRecDepth 100000 in
theorem liftedTraceLists (os : Os) (started : os.Started) (H : Type) (enc : TypeId × Value → H) :
    ReturnsInHanded {} Try.checked os 6 .any (Rows.traceListsSpec.pre6 enc Try.prog Try.f6 Rows.traceListsRow.domain false) (Rows.traceListsSpec.post enc Try.prog Try.f6 false true false false) :=
  handed (C := Try.checked) (tb := 4) own started (by kernel_rfl) Try.func6 laidOut (by kernel_rfl) rfl
    (fun ds h => by
      have h : ds.length = 3 := h
      match ds, h with
      | [_, _, _], _ => exact ⟨rfl, rfl, rfl⟩) (by kernel_rfl) (by kernel_rfl)
    (ChangeSpec.witness6 (enc := enc) (C := Try.checked) false ⟨#[], #[.slice none 0 0, .int .i64 0, .agg #[.int .i64 0, .int .i64 0]], []⟩ 8 (by kernel_rfl) (by kernel_rfl) (by kernel_rfl) (by kernel_rfl))
    (fun W args h => walkTraceLists W args h)

theorem overTraceLists : Rows.traceListsRow.holds Try.pinned (OpenSpec.ofChange Rows.traceListsSpec) :=
  OpenClaim.holds_of_wide 6 Try.f6 rfl rfl rfl rfl rfl rfl rfl ⟨rfl, rfl, rfl, rfl, rfl⟩ rfl rfl rfl rfl rfl (by kernel_rfl) Try.func6 (by kernel_rfl)
    (of_decide_eq_true (by kernel_rfl)) (by unfold Func.isWrapper; first | (rw [if_pos (by decide +kernel)]; kernel_rfl) | (rw [if_neg (by decide +kernel)]; exact ⟨rfl, rfl⟩))
    (fun os started H enc _ => liftedTraceLists os started H enc)

/-- The statement. -/
theorem provedTraceLists : Rows.TraceListsSaid := overTraceLists

#print axioms provedTraceLists
end Go.Proofs.Ytjcpggoodbkedaa
end
