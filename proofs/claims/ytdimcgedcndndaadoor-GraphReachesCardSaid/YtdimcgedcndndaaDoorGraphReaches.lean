/- The given statement GraphReachesCardSaid is proved: the modes next to a mode, those that can be reached from it, those that no edge leaves, and whether each reaches each, are as in the document. Conditions: images that are right and not too great, as the statement itself says them; none beside. -/
import Derived.Test.YtdimcgedcndndaaDoorGraphReachesP2
import Derived.KernelRfl
import Derived.Test.YtdimcgedcndndaaDoorProg
import Derived.Test.YtdimcgedcndndaaDoorRows
import Derived.Test.YtdimcgedcndndaaDoorTie
import Derived.Test.YtdimcgedcndndaaDoorCards
import Derived.SevenTiedAt
import Derived.LaidMore
section
namespace Go.Proofs.YtdimcgedcndndaaDoor
open Go Go.Sl
set_option linter.unusedVariables false
set_option linter.unusedSimpArgs false
set_option maxRecDepth 4000
variable {B : Nat} {K : Asrt B}
theorem en_43 : Go.Proofs.Enters Tryd.prog 43 := Go.Proofs.enters_of Tryd.func43 (by kernel_rfl) rfl
theorem en_44 : Go.Proofs.Enters Tryd.prog 44 := Go.Proofs.enters_of Tryd.func44 (by kernel_rfl) rfl
theorem en_49 : Go.Proofs.Enters Tryd.prog 49 := Go.Proofs.enters_of Tryd.func49 (by kernel_rfl) rfl
theorem en_52 : Go.Proofs.Enters Tryd.prog 52 := Go.Proofs.enters_of Tryd.func52 (by kernel_rfl) rfl
theorem ub_4 : Tryd.prog.underlying 4 = some .bool := by kernel_rfl

theorem listN_setOf (p : Nat → Bool) (n : Nat) (hn : n ≤ 32) : ∀ k, k ≤ 32 → (listN (ofI (setOf n p)) k).length = (setOf (min n k) p).length
  | 0, _ => by simp [listN, setOf]
  | k + 1, hk => by
    have ih := listN_setOf p n hn k (by omega)
    rw [listN_s, List.length_append, ih, hasB_setOf (show k < 32 by omega)]
    by_cases h : k < n
    · rw [decide_eq_true h, Bool.true_and, show min n k = k by omega, show min n (k + 1) = k + 1 by omega, setOf_s, List.length_append]
    · rw [decide_eq_false h, Bool.false_and, show min n k = n by omega, show min n (k + 1) = n by omega]; rfl
theorem reach_len {x : Img} (hn : x.modes.l.length ≤ 8) (f : Int) : (listI (reachS x f)).length = x.modes.l.length ↔ ∀ j : Nat, j < x.modes.l.length → 0 ≤ stepsG x f j := by
  have h := listN_setOf (fun i => decide (0 ≤ stepsG x f i)) x.modes.l.length (by omega) 32 (by omega)
  rw [show min x.modes.l.length 32 = x.modes.l.length by omega] at h
  have h2 : (listI (reachS x f)).length = (setOf x.modes.l.length fun i => decide (0 ≤ stepsG x f i)).length := h
  rw [h2]; unfold setOf
  rw [List.length_map]
  have h3 := List.length_filter_eq_length_iff (p := fun i => decide (0 ≤ stepsG x f i)) (l := List.range x.modes.l.length)
  rw [List.length_range] at h3
  rw [h3]
  constructor
  · intro h j hj; exact of_decide_eq_true (h j (List.mem_range.2 hj))
  · intro h j hj; exact decide_eq_true (h j (List.mem_range.1 hj))
def rowAll (x : Img) (k i : Nat) : Bool := (List.range i).all fun j => decide (0 ≤ stepsG x (k : Int) j)
def allAll (x : Img) (k : Nat) : Bool := (List.range k).all fun m => rowAll x m x.modes.l.length
theorem rowAll_s (x : Img) (k i : Nat) : rowAll x k (i + 1) = (rowAll x k i && decide (0 ≤ stepsG x (k : Int) i)) := by unfold rowAll; rw [List.range_succ, List.all_append]; simp
theorem allAll_s (x : Img) (k : Nat) : allAll x (k + 1) = (allAll x k && rowAll x k x.modes.l.length) := by unfold allAll; rw [List.range_succ, List.all_append]; simp
theorem round_all {x : Img} (hn : x.modes.l.length ≤ 8) : roundB x = allAll x x.modes.l.length := by
  unfold roundB allAll
  rw [Bool.eq_iff_iff, List.all_eq_true, List.all_eq_true]
  have key : ∀ m : Nat, decide ((listI (reachS x (m : Int))).length = x.modes.l.length) = true ↔ rowAll x m x.modes.l.length = true := fun m => by
    rw [decide_eq_true_eq, reach_len hn]; unfold rowAll; rw [List.all_eq_true]
    constructor
    · intro h j hj; exact decide_eq_true (h j (List.mem_range.1 hj))
    · intro h j hj; exact of_decide_eq_true (h j (List.mem_range.2 hj))
  constructor
  · intro h m hm; exact (key m).1 (h m hm)
  · intro h m hm; exact (key m).2 (h m hm)
/-- From which no edge goes. -/
theorem dead_iff {x : Img} (hr : RightP x) {k : Nat} (hk : k < x.modes.l.length) : deadP x k = true ↔ ∀ j : Nat, j < x.modes.l.length → stepsG x (k : Int) j ≤ 0 := by
  have hs : ∀ j, stepsG x (k : Int) j = dist x.edges.l x.modes.l.length k j := fun j => by unfold stepsG; rw [if_pos ⟨by omega, by omega⟩, Int.toNat_natCast]
  unfold deadP; rw [List.isEmpty_iff]
  constructor
  · intro h j hj
    rw [hs j]
    apply Classical.byContradiction; intro hc
    -- the first step of the way there
    have key : ∀ (d : Nat) (j : Nat), dist x.edges.l x.modes.l.length k j = (d : Int) + 1 → False := by
      intro d
      induction d with
      | zero =>
        intro j hd
        obtain ⟨e, he, g1, _⟩ := dist_pred (eok hr.g) (show 0 < dist x.edges.l x.modes.l.length k j by omega)
        have g2 := (dist_zero (E := x.edges.l) (n := x.modes.l.length) (f := k) (i := (e 0).toNat)).1 (by omega)
        have hb := (hr.edges e he).f
        have hm : e 1 ∈ nxt x.edges.l (k : Int) := mem_nxt.2 ⟨e, he, by omega, rfl⟩
        rw [h] at hm; cases hm
      | succ d ih =>
        intro j hd
        obtain ⟨e, he, g1, _⟩ := dist_pred (eok hr.g) (show 0 < dist x.edges.l x.modes.l.length k j by omega)
        exact ih (e 0).toNat (by omega)
    obtain ⟨d, hd⟩ := Int.eq_ofNat_of_zero_le (show 0 ≤ dist x.edges.l x.modes.l.length k j - 1 by omega)
    exact key d j (by omega)
  · intro h
    cases hn : nxt x.edges.l (k : Int) with
    | nil => rfl
    | cons t ts =>
      exfalso
      have hm : t ∈ nxt x.edges.l (k : Int) := by rw [hn]; exact List.mem_cons_self ..
      obtain ⟨e, he, g1, g2⟩ := mem_nxt.1 hm
      have hp := hr.edges e he
      have h1 : dist x.edges.l x.modes.l.length k (e 0).toNat = 0 := dist_zero.2 (by omega)
      have h2 := dist_edge (eok hr.g) hk he (by omega)
      have h3 := h (e 1).toNat (by have := hp.t; omega)
      rw [hs] at h3
      have h4 := dist_zero.1 (show dist x.edges.l x.modes.l.length k (e 1).toNat = 0 by omega)
      have := hp.ne; have := hp.t; have := hp.f; omega
theorem nx_s {E : List Edg} {m : Int} {i : Nat} {e : Edg} (h : E[i]? = some e) : ((nxtI E m (i + 1)).flatMap fun p => [p.1, p.2]) = ((nxtI E m i).flatMap fun p => [p.1, p.2]) ++ if e 0 = m then [e 1, (i : Int)] else [] := by
  rw [nxtI_s h, List.flatMap_append]; congr 1; split <;> rfl
theorem nx_len (E : List Edg) (m : Int) (i : Nat) : ((nxtI E m i).flatMap fun p => [p.1, p.2]).length ≤ 2 * i := by
  have h1 := nextL_len (nxtI E m i); have h2 := nxtI_len E m i; omega

theorem graphReaches (x : Img) (hx : x.In K) (m : Int) {Kt : Asrt B} (hK : Rd Kt ⟨0, 0, none⟩ (tab32.map fun m => .int .u8 m)) : Ctr Tryd.prog B 8 [x.v, .int .i64 m] [K, Kt] (fun v S => v = .bool true ∧ S = [K, Kt]) := by
  refine Ctr_of_X (N := 114) Tryd.func8 rfl (by simp) rfl ?_
  intro w0 D0
  refine X_seq ?_
  refine X_region ?_
  refine XL_box (cs := [.int .i64 x.res, .slice x.tasks.oad x.tasks.l.length x.tasks.c, .slice x.modes.oad x.modes.l.length x.modes.c, .slice x.edges.oad x.edges.l.length x.edges.c]) .no rfl rfl rfl (fun b1 => ?_)
  refine XL_det .no (D_pure rfl) rfl ?_
  refine XL_then ?_
  refine X_seq ?_
  refine X_seq ?_
  refine X_region ?_
  refine XL_det .no (D_ldso (vs := [.int .i64 x.res, .slice x.tasks.oad x.tasks.l.length x.tasks.c, .slice x.modes.oad x.modes.l.length x.modes.c, .slice x.edges.oad x.edges.l.length x.edges.c]) rfl (by repeat first | with_reducible exact .here _ _ | with_reducible apply Out.there | with_reducible apply Out.app) tk_95 rfl (by rfl)) rfl ?_
  refine XL_callk .no en_43 rfl (rgreat x hx) (by repeat first | with_reducible exact .nil _ | with_reducible exact .here _ _ | with_reducible exact Take.self _ | with_reducible apply Take.cons | with_reducible apply Out.there | with_reducible apply Take.skip | with_reducible exact Take.pre _ _ | with_reducible apply Out.app) rfl ?_
  refine XL_det .no (D_pure rfl) rfl ?_
  refine XL_split (t := 15) rfl (fun h1 => ?_) (fun h1 => ?_)
  · try simp only [decide_eq_true_eq, decide_eq_false_iff_not, Bool.not_eq_true', Bool.not_eq_false', beq_iff_eq, bne_iff_ne, beq_eq_false_iff_ne, bne_eq_false_iff_eq, Int.not_lt, Int.not_le, gt_iff_lt, ge_iff_le, ne_eq] at h1
    refine XL_skip 15 rfl rfl rfl rfl rfl ?_
    refine XL_skip 15 rfl rfl rfl rfl rfl ?_
    refine XL_skip 15 rfl rfl rfl rfl rfl ?_
    refine XL_det .no (D_pure rfl) rfl ?_
    refine XL_then ?_
    refine X_cond_t rfl rfl ?_
    refine X_seq ?_
    refine X_region ?_
    refine XL_det .no (D_pure rfl) rfl ?_
    refine XL_then ?_
    refine X_ret ?_
    refine thenX_ret ?_
    refine ret_ok (.nil _) (res_tmp rfl rfl) ?_
    exact ⟨_, ⟨rfl, rfl⟩, _, (by repeat first | with_reducible exact .nil _ | with_reducible exact .here _ _ | with_reducible exact Take.self _ | with_reducible apply Take.cons | with_reducible apply Out.there | with_reducible apply Take.skip | with_reducible exact Take.pre _ _ | with_reducible apply Out.app)⟩
  · try simp only [decide_eq_true_eq, decide_eq_false_iff_not, Bool.not_eq_true', Bool.not_eq_false', beq_iff_eq, bne_iff_ne, beq_eq_false_iff_ne, bne_eq_false_iff_eq, Int.not_lt, Int.not_le, gt_iff_lt, ge_iff_le, ne_eq] at h1
    refine XL_det (.yes 15 rfl rfl rfl) (D_ldso (vs := [.int .i64 x.res, .slice x.tasks.oad x.tasks.l.length x.tasks.c, .slice x.modes.oad x.modes.l.length x.modes.c, .slice x.edges.oad x.edges.l.length x.edges.c]) rfl (by repeat first | with_reducible exact .here _ _ | with_reducible apply Out.there | with_reducible apply Out.app) tk_95 rfl (by rfl)) rfl ?_
    refine XL_call (.yes 15 rfl rfl rfl) en_44 rfl (rright x hx h1) (by repeat first | with_reducible exact .nil _ | with_reducible exact .here _ _ | with_reducible exact Take.self _ | with_reducible apply Take.cons | with_reducible apply Out.there | with_reducible apply Take.skip | with_reducible exact Take.pre _ _ | with_reducible apply Out.app) rfl ?_
    rintro _ _ ⟨b, rfl, hb, rfl⟩
    simp only [List.cons_append, List.nil_append]
    refine XL_det (.yes 15 rfl rfl rfl) (D_pure rfl) rfl ?_
    refine XL_det .no (D_pure rfl) rfl ?_
    refine XL_then ?_
    refine X_cond rfl (fun h2 => ?_) (fun h2 => ?_)
    · try simp only [decide_eq_true_eq, decide_eq_false_iff_not, Bool.not_eq_true', Bool.not_eq_false', beq_iff_eq, bne_iff_ne, beq_eq_false_iff_ne, bne_eq_false_iff_eq, Int.not_lt, Int.not_le, gt_iff_lt, ge_iff_le, ne_eq] at h2
      refine X_seq ?_
      refine X_region ?_
      refine XL_det .no (D_pure rfl) rfl ?_
      refine XL_then ?_
      refine X_ret ?_
      refine thenX_ret ?_
      refine ret_ok (.nil _) (res_tmp rfl rfl) ?_
      exact ⟨_, ⟨rfl, rfl⟩, _, (by repeat first | with_reducible exact .nil _ | with_reducible exact .here _ _ | with_reducible exact Take.self _ | with_reducible apply Take.cons | with_reducible apply Out.there | with_reducible apply Take.skip | with_reducible exact Take.pre _ _ | with_reducible apply Out.app)⟩
    · try simp only [decide_eq_true_eq, decide_eq_false_iff_not, Bool.not_eq_true', Bool.not_eq_false', beq_iff_eq, bne_iff_ne, beq_eq_false_iff_ne, bne_eq_false_iff_eq, Int.not_lt, Int.not_le, gt_iff_lt, ge_iff_le, ne_eq] at h2
      have hr := hb h2
      have hg := hr.g
      have hnm := hr.nm
      have hne := hr.ne
      refine X_skip ?_
      refine thenX_normal ?_
      refine X_seq ?_
      refine X_region ?_
      refine XL_det .no (D_pure rfl) rfl ?_
      refine XL_det .no (D_pure rfl) rfl ?_
      refine XL_then ?_
      refine X_seq ?_
      refine X_region ?_
      refine XL_det .no (D_pure rfl) rfl ?_
      refine XL_then ?_
      refine X_seq ?_
      refine X_seq ?_
      refine X_region ?_
      refine XL_det .no (D_pure rfl) rfl ?_
      refine XL_then ?_
      refine X_block ?_
      refine X_rowa encI 3 1 ?_
      refine X_loop (α := Nat × Arr Int) (fun ⟨i, a⟩ => i ≤ x.edges.l.length ∧ a.Own ∧ a.l = (nxtI x.edges.l m i).flatMap fun p => [p.1, p.2]) (fun ⟨i, a⟩ => [(8, .int .i64 (i : Int)), (5, .slice a.oad a.l.length a.c), (1, .int .i64 m), (2, .pointer (some ⟨b1, 0, none⟩)), (6, .slice none 0 0), (7, .bool true)]) (fun ⟨i, a⟩ => [blk b1 [.int .i64 x.res, .slice x.tasks.oad x.tasks.l.length x.tasks.c, .slice x.modes.oad x.modes.l.length x.modes.c, .slice x.edges.oad x.edges.l.length x.edges.c] 95, row (.slice a.oad a.l.length a.c) 3 1 a.l.length (a.l.flatMap encI), K, Kt]) (fun ⟨i, a⟩ => x.edges.l.length - i) (0, Arr.emp) ?_ (by refine ⟨?_, ?_, ?_, ?_, ?_, ?_, trivial⟩ <;> rfl) (by repeat first | with_reducible exact .nil _ | with_reducible exact .here _ _ | with_reducible exact Take.self _ | with_reducible apply Take.cons | with_reducible apply Out.there | with_reducible apply Take.skip | with_reducible exact Take.pre _ _ | with_reducible apply Out.app) ?_
      · exact ⟨Nat.zero_le _, Arr.emp_own, rfl⟩
      · rintro ⟨i, a⟩ ⟨hi, hao, ha⟩
        dsimp only
        have hal : a.l.length ≤ 2 * i := by rw [ha]; exact nx_len _ _ _
        refine X_seq ?_
        refine X_seq ?_
        refine X_region ?_
        refine XL_det .no (D_pure rfl) rfl ?_
        refine XL_det .no (D_fld rfl fld_95_3 (o' := 3) rfl) rfl ?_
        refine XL_det .no (D_ldo rfl (by repeat first | with_reducible exact .here _ _ | with_reducible apply Out.there | with_reducible apply Out.app) tk_93 (by rfl)) rfl ?_
        refine XL_det .no (D_len rfl rfl slc_93) rfl ?_
        refine XL_det .no (D_pure rfl) rfl ?_
        refine XL_then ?_
        refine X_cond rfl (fun h3 => ?_) (fun h3 => ?_)
        · try simp only [decide_eq_true_eq, decide_eq_false_iff_not, Bool.not_eq_true', Bool.not_eq_false', beq_iff_eq, bne_iff_ne, beq_eq_false_iff_ne, bne_eq_false_iff_eq, Int.not_lt, Int.not_le, gt_iff_lt, ge_iff_le, ne_eq] at h3
          obtain ⟨e, he⟩ : ∃ e, x.edges.l[i]? = some e := ⟨_, List.getElem?_eq_getElem (by omega)⟩
          refine X_skip ?_
          refine thenX_normal ?_
          refine X_seq ?_
          refine X_block ?_
          refine X_seq ?_
          refine X_region ?_
          refine XL_det .no (D_fld rfl fld_95_3 (o' := 3) rfl) rfl ?_
          refine XL_det .no (D_ldo rfl (by repeat first | with_reducible exact .here _ _ | with_reducible apply Out.there | with_reducible apply Out.app) tk_93 (by rfl)) rfl ?_
          refine XL_det .no (D_pure rfl) rfl ?_
          refine XL_det .no (D_idxSo rfl rfl slc_93 (x.edges).nil0 rfl (by omega) rfl) rfl ?_
          refine XL_det .no (D_fldA rfl fld_100_0 rfl) rfl ?_
          refine XL_det .no (D_ela (enc := encE) (sz := 23) (i := i) (k := 0) (fun _ => rfl) rfl (by repeat first | with_reducible exact .here _ _ | with_reducible apply Out.there | with_reducible apply Out.app) hx.edges tk_3 he rfl) rfl ?_
          refine XL_det .no (D_pure rfl) rfl ?_
          refine XL_det .no (D_pure rfl) rfl ?_
          refine XL_then ?_
          refine X_cond rfl (fun h4 => ?_) (fun h4 => ?_)
          · try simp only [decide_eq_true_eq, decide_eq_false_iff_not, Bool.not_eq_true', Bool.not_eq_false', beq_iff_eq, bne_iff_ne, beq_eq_false_iff_ne, bne_eq_false_iff_eq, Int.not_lt, Int.not_le, gt_iff_lt, ge_iff_le, ne_eq] at h4
            refine X_region ?_
            refine XL_det .no (D_pure rfl) rfl ?_
            refine XL_det .no (D_fld rfl fld_95_3 (o' := 3) rfl) rfl ?_
            refine XL_det .no (D_ldo rfl (by repeat first | with_reducible exact .here _ _ | with_reducible apply Out.there | with_reducible apply Out.app) tk_93 (by rfl)) rfl ?_
            refine XL_det .no (D_pure rfl) rfl ?_
            refine XL_det .no (D_idxSo rfl rfl slc_93 (x.edges).nil0 rfl (by omega) rfl) rfl ?_
            refine XL_det .no (D_fldA rfl fld_100_1 rfl) rfl ?_
            refine XL_det .no (D_ela (enc := encE) (sz := 23) (i := i) (k := 1) (fun _ => rfl) rfl (by repeat first | with_reducible exact .here _ _ | with_reducible apply Out.there | with_reducible apply Out.app) hx.edges tk_3 he rfl) rfl ?_
            refine XL_det .no (D_pure rfl) rfl ?_
            refine XL_bslice (cs := [.int .i64 (e 1), .int .i64 (i : Int)]) .no rfl slt_41 (by decide) (by decide) (by rfl) (by rfl) rfl rfl (fun b2 => ?_)
            refine XL_appl (enc := encI) (c := a) [e 1, (i : Int)] (K := blk b2 [.int .i64 (e 1), .int .i64 (i : Int)] 3) .no rfl rfl rfl slt_41 (by repeat first | with_reducible exact .here _ _ | with_reducible apply Out.there | with_reducible apply Out.app) (by repeat first | with_reducible exact .here _ _ | with_reducible apply Out.there | with_reducible apply Out.app) (Rd_blk0) (fun _ => rfl) (fun _ => rfl) (by omega) (by omega) rfl (fun a2 ha2 ha2o => ?_)
            refine XL_det .no (D_pure rfl) rfl ?_
            refine XL_nil ?_
            refine inBlk_normal ?_
            refine thenX_normal ?_
            refine X_region ?_
            refine XL_det .no (D_pure rfl) rfl ?_
            refine XL_det .no (D_add rfl rfl (by omega) (by omega)) rfl ?_
            refine XL_det .no (D_pure rfl) rfl ?_
            refine XL_nil ?_
            refine loopQ_next (i + 1, a2) ?_ ?_ ?_ ?_
            · (try dsimp only); exact ⟨by omega, ha2o, by rw [ha2, ha, nx_s he, if_pos h4]⟩
            · (try dsimp only); omega
            · refine ⟨?_, ?_, ?_, ?_, ?_, ?_, trivial⟩ <;> rfl
            · (try dsimp only); exact ⟨_, (by repeat first | with_reducible exact .nil _ | with_reducible exact .here _ _ | with_reducible exact Take.self _ | with_reducible apply Take.cons | with_reducible apply Out.there | with_reducible apply Take.skip | with_reducible exact Take.pre _ _ | with_reducible apply Out.app)⟩
          · try simp only [decide_eq_true_eq, decide_eq_false_iff_not, Bool.not_eq_true', Bool.not_eq_false', beq_iff_eq, bne_iff_ne, beq_eq_false_iff_ne, bne_eq_false_iff_eq, Int.not_lt, Int.not_le, gt_iff_lt, ge_iff_le, ne_eq] at h4
            refine X_skip ?_
            refine inBlk_normal ?_
            refine thenX_normal ?_
            refine X_region ?_
            refine XL_det .no (D_pure rfl) rfl ?_
            refine XL_det .no (D_add rfl rfl (by omega) (by omega)) rfl ?_
            refine XL_det .no (D_pure rfl) rfl ?_
            refine XL_nil ?_
            refine loopQ_next (i + 1, a) ?_ ?_ ?_ ?_
            · (try dsimp only); exact ⟨by omega, hao, by rw [ha, nx_s he, if_neg h4, List.append_nil]⟩
            · (try dsimp only); omega
            · refine ⟨?_, ?_, ?_, ?_, ?_, ?_, trivial⟩ <;> rfl
            · (try dsimp only); exact ⟨_, (by repeat first | with_reducible exact .nil _ | with_reducible exact .here _ _ | with_reducible exact Take.self _ | with_reducible apply Take.cons | with_reducible apply Out.there | with_reducible apply Take.skip | with_reducible exact Take.pre _ _ | with_reducible apply Out.app)⟩
        · try simp only [decide_eq_true_eq, decide_eq_false_iff_not, Bool.not_eq_true', Bool.not_eq_false', beq_iff_eq, bne_iff_ne, beq_eq_false_iff_ne, bne_eq_false_iff_eq, Int.not_lt, Int.not_le, gt_iff_lt, ge_iff_le, ne_eq] at h3
          have haE : a.l = nextL x m := by rw [ha, show i = x.edges.l.length by omega]
          refine X_exit ?_
          refine thenX_exit ?_
          refine loopQ_exit ?_
          refine inBlk_here ?_
          refine thenX_normal ?_
          refine X_seq ?_
          refine X_seq ?_
          refine X_region ?_
          refine XL_det .no (D_pure rfl) rfl ?_
          refine XL_then ?_
          refine X_block ?_
          refine X_rowa encI 3 1 ?_
          refine X_loop (α := Nat × Arr Int) (fun ⟨k, c⟩ => k ≤ x.modes.l.length ∧ c.Own ∧ c.l = setOf k (deadP x)) (fun ⟨k, c⟩ => [(9, .int .i64 (k : Int)), (6, .slice c.oad c.l.length c.c), (7, .bool (allAll x k)), (1, .int .i64 m), (2, .pointer (some ⟨b1, 0, none⟩)), (5, .slice a.oad a.l.length a.c)]) (fun ⟨k, c⟩ => [blk b1 [.int .i64 x.res, .slice x.tasks.oad x.tasks.l.length x.tasks.c, .slice x.modes.oad x.modes.l.length x.modes.c, .slice x.edges.oad x.edges.l.length x.edges.c] 95, row (.slice a.oad a.l.length a.c) 3 1 a.l.length (a.l.flatMap encI), row (.slice c.oad c.l.length c.c) 3 1 c.l.length (c.l.flatMap encI), K, Kt]) (fun ⟨k, c⟩ => x.modes.l.length - k) (0, Arr.emp) ?_ (by refine ⟨?_, ?_, ?_, ?_, ?_, ?_, trivial⟩ <;> rfl) (by repeat first | with_reducible exact .nil _ | with_reducible exact .here _ _ | with_reducible exact Take.self _ | with_reducible apply Take.cons | with_reducible apply Out.there | with_reducible apply Take.skip | with_reducible exact Take.pre _ _ | with_reducible apply Out.app) ?_
          · exact ⟨Nat.zero_le _, Arr.emp_own, rfl⟩
          · rintro ⟨k, c⟩ ⟨hk, hco, hc⟩
            dsimp only
            have hcl : c.l.length ≤ k := by rw [hc]; exact setOf_len _ _
            refine X_seq ?_
            refine X_seq ?_
            refine X_region ?_
            refine XL_det .no (D_pure rfl) rfl ?_
            refine XL_det .no (D_fld rfl fld_95_2 (o' := 2) rfl) rfl ?_
            refine XL_det .no (D_ldo rfl (by repeat first | with_reducible exact .here _ _ | with_reducible apply Out.there | with_reducible apply Out.app) tk_92 (by rfl)) rfl ?_
            refine XL_det .no (D_len rfl rfl slc_92) rfl ?_
            refine XL_det .no (D_pure rfl) rfl ?_
            refine XL_then ?_
            refine X_cond rfl (fun h5 => ?_) (fun h5 => ?_)
            · try simp only [decide_eq_true_eq, decide_eq_false_iff_not, Bool.not_eq_true', Bool.not_eq_false', beq_iff_eq, bne_iff_ne, beq_eq_false_iff_ne, bne_eq_false_iff_eq, Int.not_lt, Int.not_le, gt_iff_lt, ge_iff_le, ne_eq] at h5
              refine X_skip ?_
              refine thenX_normal ?_
              refine X_seq ?_
              refine X_block ?_
              refine X_seq ?_
              refine X_region ?_
              refine XL_det .no (D_ldso (vs := [.int .i64 x.res, .slice x.tasks.oad x.tasks.l.length x.tasks.c, .slice x.modes.oad x.modes.l.length x.modes.c, .slice x.edges.oad x.edges.l.length x.edges.c]) rfl (by repeat first | with_reducible exact .here _ _ | with_reducible apply Out.there | with_reducible apply Out.app) tk_95 rfl (by rfl)) rfl ?_
              refine XL_det .no (D_pure rfl) rfl ?_
              refine XL_call .no en_45 rfl (rsteps x hx hg (k : Int)) (by repeat first | with_reducible exact .nil _ | with_reducible exact .here _ _ | with_reducible exact Take.self _ | with_reducible apply Take.cons | with_reducible apply Out.there | with_reducible apply Take.skip | with_reducible exact Take.pre _ _ | with_reducible apply Out.app) rfl ?_
              rintro _ _ ⟨l, ⟨hl, hlo⟩, rfl, rfl⟩
              simp only [List.cons_append, List.nil_append]
              have hll : l.l.length = x.modes.l.length := by rw [hl, rgI_len]
              refine XL_det .no (D_pure rfl) rfl ?_
              refine XL_then ?_
              refine X_seq ?_
              refine X_region ?_
              refine XL_det .no (D_pure rfl) rfl ?_
              refine XL_then ?_
              refine X_seq ?_
              refine X_seq ?_
              refine X_region ?_
              refine XL_det .no (D_pure rfl) rfl ?_
              refine XL_then ?_
              refine X_block ?_
              refine X_loop (α := Nat × Int) (fun ⟨i, mo⟩ => i ≤ x.modes.l.length ∧ 0 ≤ mo ∧ (mo = 0 ↔ ∀ j : Nat, j < i → stepsG x (k : Int) j ≤ 0)) (fun ⟨i, mo⟩ => [(12, .int .i64 (i : Int)), (11, .int .i64 mo), (7, .bool (allAll x k && rowAll x k i)), (1, .int .i64 m), (2, .pointer (some ⟨b1, 0, none⟩)), (5, .slice a.oad a.l.length a.c), (6, .slice c.oad c.l.length c.c), (9, .int .i64 (k : Int)), (10, .slice l.oad l.l.length l.c)]) (fun ⟨i, mo⟩ => [blk b1 [.int .i64 x.res, .slice x.tasks.oad x.tasks.l.length x.tasks.c, .slice x.modes.oad x.modes.l.length x.modes.c, .slice x.edges.oad x.edges.l.length x.edges.c] 95, row (.slice l.oad l.l.length l.c) 3 1 l.l.length (l.l.flatMap encI), row (.slice a.oad a.l.length a.c) 3 1 a.l.length (a.l.flatMap encI), row (.slice c.oad c.l.length c.c) 3 1 c.l.length (c.l.flatMap encI), K, Kt]) (fun ⟨i, mo⟩ => x.modes.l.length - i) (0, 0) ?_ (by refine ⟨?_, ?_, ?_, ?_, ?_, ?_, ?_, ?_, ?_, trivial⟩ <;> first | rfl | (rw [show (allAll x k && rowAll x k 0) = allAll x k from Bool.and_true _]; rfl)) (by repeat first | with_reducible exact .nil _ | with_reducible exact .here _ _ | with_reducible exact Take.self _ | with_reducible apply Take.cons | with_reducible apply Out.there | with_reducible apply Take.skip | with_reducible exact Take.pre _ _ | with_reducible apply Out.app) ?_
              · exact ⟨Nat.zero_le _, by omega, fun _ j hj => by omega, fun _ => rfl⟩
              · rintro ⟨i, mo⟩ ⟨hi, hm0, hmz⟩
                dsimp only
                refine X_seq ?_
                refine X_seq ?_
                refine X_region ?_
                refine XL_det .no (D_pure rfl) rfl ?_
                refine XL_det .no (D_pure rfl) rfl ?_
                refine XL_det .no (D_len rfl rfl slc_41) rfl ?_
                refine XL_det .no (D_pure rfl) rfl ?_
                refine XL_then ?_
                refine X_cond rfl (fun h6 => ?_) (fun h6 => ?_)
                · try simp only [decide_eq_true_eq, decide_eq_false_iff_not, Bool.not_eq_true', Bool.not_eq_false', beq_iff_eq, bne_iff_ne, beq_eq_false_iff_ne, bne_eq_false_iff_eq, Int.not_lt, Int.not_le, gt_iff_lt, ge_iff_le, ne_eq] at h6
                  have hgl : l.l[i]? = some (stepsG x (k : Int) i) := by rw [hl]; exact rgI_get (by omega)
                  refine X_skip ?_
                  refine thenX_normal ?_
                  refine X_seq ?_
                  refine X_block ?_
                  refine X_seqj (α := Unit) (fun _ => True) (fun _ => [(7, .bool (allAll x k && rowAll x k (i + 1))), (1, .int .i64 m), (2, .pointer (some ⟨b1, 0, none⟩)), (5, .slice a.oad a.l.length a.c), (6, .slice c.oad c.l.length c.c), (9, .int .i64 (k : Int)), (10, .slice l.oad l.l.length l.c), (11, .int .i64 mo), (12, .int .i64 (i : Int))]) (fun _ => [blk b1 [.int .i64 x.res, .slice x.tasks.oad x.tasks.l.length x.tasks.c, .slice x.modes.oad x.modes.l.length x.modes.c, .slice x.edges.oad x.edges.l.length x.edges.c] 95, row (.slice l.oad l.l.length l.c) 3 1 l.l.length (l.l.flatMap encI), row (.slice a.oad a.l.length a.c) 3 1 a.l.length (a.l.flatMap encI), row (.slice c.oad c.l.length c.c) 3 1 c.l.length (c.l.flatMap encI), K, Kt]) ?_ ?_
                  · skip
                    refine X_region ?_
                    refine XL_det .no (D_pure rfl) rfl ?_
                    refine XL_det .no (D_pure rfl) rfl ?_
                    refine XL_split (t := 62) rfl (fun h7 => ?_) (fun h7 => ?_)
                    · try simp only [decide_eq_true_eq, decide_eq_false_iff_not, Bool.not_eq_true', Bool.not_eq_false', beq_iff_eq, bne_iff_ne, beq_eq_false_iff_ne, bne_eq_false_iff_eq, Int.not_lt, Int.not_le, gt_iff_lt, ge_iff_le, ne_eq] at h7
                      refine XL_det (.yes 62 rfl rfl rfl) (D_pure rfl) rfl ?_
                      refine XL_det (.yes 62 rfl rfl rfl) (D_pure rfl) rfl ?_
                      refine XL_det (.yes 62 rfl rfl rfl) (D_idxSo rfl rfl slc_41 (l).nil0 rfl (by omega) rfl) rfl ?_
                      refine XL_det (.yes 62 rfl rfl rfl) (D_ela (enc := encI) (sz := 1) (i := i) (k := 0) (fun _ => rfl) rfl (by repeat first | with_reducible exact .here _ _ | with_reducible apply Out.there | with_reducible apply Out.app) (Rd_own hlo rfl) tk_3 hgl rfl) rfl ?_
                      refine XL_det (.yes 62 rfl rfl rfl) (D_pure rfl) rfl ?_
                      refine XL_det .no (D_pure rfl) rfl ?_
                      refine XL_det .no (D_pure rfl) rfl ?_
                      refine XL_nil ?_
                      refine joinQ_normal () ?_ ?_ ?_
                      · trivial
                      · refine ⟨by rw [rowAll_s, ← Bool.and_assoc, h7, Bool.true_and]; rfl, ?_, ?_, ?_, ?_, ?_, ?_, ?_, ?_, trivial⟩ <;> rfl
                      · exact ⟨_, (by repeat first | with_reducible exact .nil _ | with_reducible exact .here _ _ | with_reducible exact Take.self _ | with_reducible apply Take.cons | with_reducible apply Out.there | with_reducible apply Take.skip | with_reducible exact Take.pre _ _ | with_reducible apply Out.app)⟩
                    · try simp only [decide_eq_true_eq, decide_eq_false_iff_not, Bool.not_eq_true', Bool.not_eq_false', beq_iff_eq, bne_iff_ne, beq_eq_false_iff_ne, bne_eq_false_iff_eq, Int.not_lt, Int.not_le, gt_iff_lt, ge_iff_le, ne_eq] at h7
                      refine XL_skip 62 rfl rfl rfl rfl rfl ?_
                      refine XL_skip 62 rfl rfl rfl rfl rfl ?_
                      refine XL_skip 62 rfl rfl rfl rfl rfl ?_
                      refine XL_skip 62 rfl rfl rfl rfl rfl ?_
                      refine XL_skip 62 rfl rfl rfl rfl rfl ?_
                      refine XL_det .no (D_pure rfl) rfl ?_
                      refine XL_det .no (D_pure rfl) rfl ?_
                      refine XL_nil ?_
                      refine joinQ_normal () ?_ ?_ ?_
                      · trivial
                      · refine ⟨by rw [rowAll_s, ← Bool.and_assoc, h7, Bool.false_and]; rfl, ?_, ?_, ?_, ?_, ?_, ?_, ?_, ?_, trivial⟩ <;> rfl
                      · exact ⟨_, (by repeat first | with_reducible exact .nil _ | with_reducible exact .here _ _ | with_reducible exact Take.self _ | with_reducible apply Take.cons | with_reducible apply Out.there | with_reducible apply Take.skip | with_reducible exact Take.pre _ _ | with_reducible apply Out.app)⟩
                  · rintro _ _
                    refine X_seq ?_
                    refine X_region ?_
                    refine XL_det .no (D_pure rfl) rfl ?_
                    refine XL_det .no (D_pure rfl) rfl ?_
                    refine XL_det .no (D_idxSo rfl rfl slc_41 (l).nil0 rfl (by omega) rfl) rfl ?_
                    refine XL_det .no (D_ela (enc := encI) (sz := 1) (i := i) (k := 0) (fun _ => rfl) rfl (by repeat first | with_reducible exact .here _ _ | with_reducible apply Out.there | with_reducible apply Out.app) (Rd_own hlo rfl) tk_3 hgl rfl) rfl ?_
                    refine XL_det .no (D_pure rfl) rfl ?_
                    refine XL_det .no (D_pure rfl) rfl ?_
                    refine XL_then ?_
                    refine X_cond rfl (fun h8 => ?_) (fun h8 => ?_)
                    · try simp only [decide_eq_true_eq, decide_eq_false_iff_not, Bool.not_eq_true', Bool.not_eq_false', beq_iff_eq, bne_iff_ne, beq_eq_false_iff_ne, bne_eq_false_iff_eq, Int.not_lt, Int.not_le, gt_iff_lt, ge_iff_le, ne_eq] at h8
                      refine X_region ?_
                      refine XL_det .no (D_pure rfl) rfl ?_
                      refine XL_det .no (D_pure rfl) rfl ?_
                      refine XL_det .no (D_idxSo rfl rfl slc_41 (l).nil0 rfl (by omega) rfl) rfl ?_
                      refine XL_det .no (D_ela (enc := encI) (sz := 1) (i := i) (k := 0) (fun _ => rfl) rfl (by repeat first | with_reducible exact .here _ _ | with_reducible apply Out.there | with_reducible apply Out.app) (Rd_own hlo rfl) tk_3 hgl rfl) rfl ?_
                      refine XL_det .no (D_pure rfl) rfl ?_
                      refine XL_nil ?_
                      refine inBlk_normal ?_
                      refine thenX_normal ?_
                      refine X_region ?_
                      refine XL_det .no (D_pure rfl) rfl ?_
                      refine XL_det .no (D_add rfl rfl (by omega) (by omega)) rfl ?_
                      refine XL_det .no (D_pure rfl) rfl ?_
                      refine XL_nil ?_
                      refine loopQ_next (i + 1, (stepsG x (k : Int) i)) ?_ ?_ ?_ ?_
                      · (try dsimp only); exact ⟨by omega, by omega, fun e => by omega, fun h => by have := h i (by omega); omega⟩
                      · (try dsimp only); omega
                      · refine ⟨?_, ?_, ?_, ?_, ?_, ?_, ?_, ?_, ?_, trivial⟩ <;> rfl
                      · (try dsimp only); exact ⟨_, (by repeat first | with_reducible exact .nil _ | with_reducible exact .here _ _ | with_reducible exact Take.self _ | with_reducible apply Take.cons | with_reducible apply Out.there | with_reducible apply Take.skip | with_reducible exact Take.pre _ _ | with_reducible apply Out.app)⟩
                    · try simp only [decide_eq_true_eq, decide_eq_false_iff_not, Bool.not_eq_true', Bool.not_eq_false', beq_iff_eq, bne_iff_ne, beq_eq_false_iff_ne, bne_eq_false_iff_eq, Int.not_lt, Int.not_le, gt_iff_lt, ge_iff_le, ne_eq] at h8
                      refine X_skip ?_
                      refine inBlk_normal ?_
                      refine thenX_normal ?_
                      refine X_region ?_
                      refine XL_det .no (D_pure rfl) rfl ?_
                      refine XL_det .no (D_add rfl rfl (by omega) (by omega)) rfl ?_
                      refine XL_det .no (D_pure rfl) rfl ?_
                      refine XL_nil ?_
                      refine loopQ_next (i + 1, mo) ?_ ?_ ?_ ?_
                      · (try dsimp only); exact ⟨by omega, hm0, fun e j hj => by rcases Nat.lt_succ_iff_lt_or_eq.1 hj with h | rfl; exact hmz.1 e j h; omega, fun h => hmz.2 fun j hj => h j (by omega)⟩
                      · (try dsimp only); omega
                      · refine ⟨?_, ?_, ?_, ?_, ?_, ?_, ?_, ?_, ?_, trivial⟩ <;> rfl
                      · (try dsimp only); exact ⟨_, (by repeat first | with_reducible exact .nil _ | with_reducible exact .here _ _ | with_reducible exact Take.self _ | with_reducible apply Take.cons | with_reducible apply Out.there | with_reducible apply Take.skip | with_reducible exact Take.pre _ _ | with_reducible apply Out.app)⟩
                · try simp only [decide_eq_true_eq, decide_eq_false_iff_not, Bool.not_eq_true', Bool.not_eq_false', beq_iff_eq, bne_iff_ne, beq_eq_false_iff_ne, bne_eq_false_iff_eq, Int.not_lt, Int.not_le, gt_iff_lt, ge_iff_le, ne_eq] at h6
                  have hin : i = x.modes.l.length := by omega
                  subst hin
                  refine X_exit ?_
                  refine thenX_exit ?_
                  refine loopQ_exit ?_
                  refine inBlk_here ?_
                  refine thenX_normal ?_
                  refine X_seq ?_
                  refine X_region ?_
                  refine XL_det .no (D_pure rfl) rfl ?_
                  refine XL_det .no (D_pure rfl) rfl ?_
                  refine XL_then ?_
                  refine X_cond rfl (fun h9 => ?_) (fun h9 => ?_)
                  · try simp only [decide_eq_true_eq, decide_eq_false_iff_not, Bool.not_eq_true', Bool.not_eq_false', beq_iff_eq, bne_iff_ne, beq_eq_false_iff_ne, bne_eq_false_iff_eq, Int.not_lt, Int.not_le, gt_iff_lt, ge_iff_le, ne_eq] at h9
                    have hdp : deadP x k = true := (dead_iff hr (by omega)).2 (hmz.1 h9)
                    refine X_region ?_
                    refine XL_det .no (D_pure rfl) rfl ?_
                    refine XL_det .no (D_pure rfl) rfl ?_
                    refine XL_bslice (cs := [.int .i64 (k : Int)]) .no rfl slt_41 (by decide) (by decide) (by rfl) (by rfl) rfl rfl (fun b3 => ?_)
                    refine XL_app1 (enc := encI) (c := c) (y := (k : Int)) (K := _) .no rfl rfl slt_41 (by repeat first | with_reducible exact .here _ _ | with_reducible apply Out.there | with_reducible apply Out.app) (by repeat first | with_reducible exact .here _ _ | with_reducible apply Out.there | with_reducible apply Out.app) (Rd_blk0) rfl rfl (by omega) (by omega) rfl (fun c2 hc2 hc2o => ?_)
                    refine XL_det .no (D_pure rfl) rfl ?_
                    refine XL_nil ?_
                    refine inBlk_normal ?_
                    refine thenX_normal ?_
                    refine X_region ?_
                    refine XL_det .no (D_pure rfl) rfl ?_
                    refine XL_det .no (D_add rfl rfl (by omega) (by omega)) rfl ?_
                    refine XL_det .no (D_pure rfl) rfl ?_
                    refine XL_nil ?_
                    refine loopQ_next (k + 1, c2) ?_ ?_ ?_ ?_
                    · (try dsimp only); exact ⟨by omega, hc2o, by rw [hc2, hc, setOf_s, if_pos hdp]⟩
                    · (try dsimp only); omega
                    · refine ⟨?_, ?_, ?_, ?_, ?_, ?_, trivial⟩ <;> first | rfl | (rw [allAll_s]; rfl)
                    · (try dsimp only); exact ⟨_, (by repeat first | with_reducible exact .nil _ | with_reducible exact .here _ _ | with_reducible exact Take.self _ | with_reducible apply Take.cons | with_reducible apply Out.there | with_reducible apply Take.skip | with_reducible exact Take.pre _ _ | with_reducible apply Out.app)⟩
                  · try simp only [decide_eq_true_eq, decide_eq_false_iff_not, Bool.not_eq_true', Bool.not_eq_false', beq_iff_eq, bne_iff_ne, beq_eq_false_iff_ne, bne_eq_false_iff_eq, Int.not_lt, Int.not_le, gt_iff_lt, ge_iff_le, ne_eq] at h9
                    have hdn : ¬ deadP x k = true := fun h => h9 (hmz.2 ((dead_iff hr (by omega)).1 h))
                    refine X_skip ?_
                    refine inBlk_normal ?_
                    refine thenX_normal ?_
                    refine X_region ?_
                    refine XL_det .no (D_pure rfl) rfl ?_
                    refine XL_det .no (D_add rfl rfl (by omega) (by omega)) rfl ?_
                    refine XL_det .no (D_pure rfl) rfl ?_
                    refine XL_nil ?_
                    refine loopQ_next (k + 1, c) ?_ ?_ ?_ ?_
                    · (try dsimp only); exact ⟨by omega, hco, by rw [hc, setOf_s, if_neg hdn, List.append_nil]⟩
                    · (try dsimp only); omega
                    · refine ⟨?_, ?_, ?_, ?_, ?_, ?_, trivial⟩ <;> first | rfl | (rw [allAll_s]; rfl)
                    · (try dsimp only); exact ⟨_, (by repeat first | with_reducible exact .nil _ | with_reducible exact .here _ _ | with_reducible exact Take.self _ | with_reducible apply Take.cons | with_reducible apply Out.there | with_reducible apply Take.skip | with_reducible exact Take.pre _ _ | with_reducible apply Out.app)⟩
            · try simp only [decide_eq_true_eq, decide_eq_false_iff_not, Bool.not_eq_true', Bool.not_eq_false', beq_iff_eq, bne_iff_ne, beq_eq_false_iff_ne, bne_eq_false_iff_eq, Int.not_lt, Int.not_le, gt_iff_lt, ge_iff_le, ne_eq] at h5
              have hkn : k = x.modes.l.length := by omega
              refine X_exit ?_
              refine thenX_exit ?_
              refine loopQ_exit ?_
              refine inBlk_here ?_
              refine thenX_normal ?_
              refine X_seq ?_
              refine X_draw [blk b1 [.int .i64 x.res, .slice x.tasks.oad x.tasks.l.length x.tasks.c, .slice x.modes.oad x.modes.l.length x.modes.c, .slice x.edges.oad x.edges.l.length x.edges.c] 95, K, Kt] mixed (by repeat first | with_reducible exact .nil _ | with_reducible exact .here _ _ | with_reducible exact Take.self _ | with_reducible apply Take.cons | with_reducible apply Out.there | with_reducible apply Take.skip | with_reducible exact Take.pre _ _ | with_reducible apply Out.app) ?_
              refine XA_det 0 rfl (by kernel_rfl) (by kernel_rfl) (by kernel_rfl) (by kernel_rfl) (fun _ _ _ _ h => h) .no (D_ldso (vs := [.int .i64 x.res, .slice x.tasks.oad x.tasks.l.length x.tasks.c, .slice x.modes.oad x.modes.l.length x.modes.c, .slice x.edges.oad x.edges.l.length x.edges.c]) rfl (by repeat first | with_reducible exact .here _ _ | with_reducible apply Out.there | with_reducible apply Out.app) tk_95 rfl (by rfl)) rfl ?_
              refine XA_detp 1 rfl (by kernel_rfl) (by kernel_rfl) (by kernel_rfl) (fun _ _ _ _ h => h) .no (D_pureP rfl) rfl ?_
              refine XA_detp 3 rfl (by kernel_rfl) (by kernel_rfl) (by kernel_rfl) (fun _ _ _ _ h => h) .no (D_pureP rfl) rfl ?_
              refine XA_one 2 (by kernel_rfl) ?_
              refine XO_callc rfl .no en_47 rfl (by repeat first | with_reducible exact .nil _ | with_reducible apply App.cons) (lnext x hx (by omega) m) (by repeat first | with_reducible exact .nil _ | with_reducible exact .here _ _ | with_reducible exact Take.self _ | with_reducible apply Take.cons | with_reducible apply Out.there | with_reducible apply Take.skip | with_reducible exact Take.pre _ _ | with_reducible apply Out.app) rfl ?_
              rintro _ _ ⟨nx, ⟨hnx, hnxo⟩, rfl, rfl⟩
              simp only [List.cons_append, List.nil_append]
              refine ⟨[row (.slice nx.oad nx.l.length nx.c) 3 1 nx.l.length (nx.l.flatMap encI), row (.slice a.oad a.l.length a.c) 3 1 a.l.length (a.l.flatMap encI), row (.slice c.oad c.l.length c.c) 3 1 c.l.length (c.l.flatMap encI)], _, _, (by repeat first | with_reducible exact .nil _ | with_reducible apply App.cons), (by repeat first | with_reducible exact .nil _ | with_reducible exact .here _ _ | with_reducible exact Take.self _ | with_reducible apply Take.cons | with_reducible apply Out.there | with_reducible apply Take.skip | with_reducible exact Take.pre _ _ | with_reducible apply Out.app), ?_⟩
              refine XA_one 4 (by kernel_rfl) ?_
              refine XO_callk rfl .no en_46 rfl (by repeat first | with_reducible exact .nil _ | with_reducible apply App.cons) (lrow (K1 := row (.slice nx.oad nx.l.length nx.c) 3 1 nx.l.length (nx.l.flatMap encI)) (K2 := row (.slice a.oad a.l.length a.c) 3 1 a.l.length (a.l.flatMap encI)) nx a (Rd_own hnxo rfl) (Rd_own hao rfl)) (by repeat first | with_reducible exact .nil _ | with_reducible exact .here _ _ | with_reducible exact Take.self _ | with_reducible apply Take.cons | with_reducible apply Out.there | with_reducible apply Take.skip | with_reducible exact Take.pre _ _ | with_reducible apply Out.app) rfl ?_
              rw [decide_eq_true (show nx.l = a.l from by rw [hnx, haE])]
              refine XA_detp 5 rfl (by kernel_rfl) (by kernel_rfl) (by kernel_rfl) (fun _ _ _ _ h => h) .no (D_pureP rfl) rfl ?_
              refine XA_det 6 rfl (by kernel_rfl) (by kernel_rfl) (by kernel_rfl) (by kernel_rfl) (fun _ _ _ _ h => h) (.yes 90 rfl rfl rfl) (D_ldso (vs := [.int .i64 x.res, .slice x.tasks.oad x.tasks.l.length x.tasks.c, .slice x.modes.oad x.modes.l.length x.modes.c, .slice x.edges.oad x.edges.l.length x.edges.c]) rfl (by repeat first | with_reducible exact .here _ _ | with_reducible apply Out.there | with_reducible apply Out.app) tk_95 rfl (by rfl)) rfl ?_
              refine XA_detp 7 rfl (by kernel_rfl) (by kernel_rfl) (by kernel_rfl) (fun _ _ _ _ h => h) (.yes 90 rfl rfl rfl) (D_pureP rfl) rfl ?_
              refine XA_det 9 rfl (by kernel_rfl) (by kernel_rfl) (by kernel_rfl) (by kernel_rfl) (fun _ _ _ _ h => h) (.yes 90 rfl rfl rfl) (D_ldso (vs := [.int .i64 x.res, .slice x.tasks.oad x.tasks.l.length x.tasks.c, .slice x.modes.oad x.modes.l.length x.modes.c, .slice x.edges.oad x.edges.l.length x.edges.c]) rfl (by repeat first | with_reducible exact .here _ _ | with_reducible apply Out.there | with_reducible apply Out.app) tk_95 rfl (by rfl)) rfl ?_
              refine XA_detp 10 rfl (by kernel_rfl) (by kernel_rfl) (by kernel_rfl) (fun _ _ _ _ h => h) (.yes 90 rfl rfl rfl) (D_pureP rfl) rfl ?_
              refine XA_one 8 (by kernel_rfl) ?_
              refine XO_callk rfl (.yes 90 rfl rfl rfl) en_48 rfl (by repeat first | with_reducible exact .nil _ | with_reducible apply App.cons) (greach x hx hg m hK) (by repeat first | with_reducible exact .nil _ | with_reducible exact .here _ _ | with_reducible exact Take.self _ | with_reducible apply Take.cons | with_reducible apply Out.there | with_reducible apply Take.skip | with_reducible exact Take.pre _ _ | with_reducible apply Out.app) rfl ?_
              refine XA_one 11 (by kernel_rfl) ?_
              refine XO_callk rfl (.yes 90 rfl rfl rfl) en_49 rfl (by repeat first | with_reducible exact .nil _ | with_reducible apply App.cons) (rreach x hx hg m) (by repeat first | with_reducible exact .nil _ | with_reducible exact .here _ _ | with_reducible exact Take.self _ | with_reducible apply Take.cons | with_reducible apply Out.there | with_reducible apply Take.skip | with_reducible exact Take.pre _ _ | with_reducible apply Out.app) rfl ?_
              refine XA_detp 12 rfl (by kernel_rfl) (by kernel_rfl) (by kernel_rfl) (fun _ _ _ _ h => h) (.yes 90 rfl rfl rfl) (D_pureP (v := .bool true) (btr rfl)) rfl ?_
              refine XA_detp 13 rfl (by kernel_rfl) (by kernel_rfl) (by kernel_rfl) (fun _ _ _ _ h => h) .no (D_pureP rfl) rfl ?_
              refine XA_detp 14 rfl (by kernel_rfl) (by kernel_rfl) (by kernel_rfl) (fun _ _ _ _ h => h) .no (D_pureP rfl) rfl ?_
              refine XA_det 15 rfl (by kernel_rfl) (by kernel_rfl) (by kernel_rfl) (by kernel_rfl) (fun _ _ _ _ h => h) (.yes 99 rfl rfl rfl) (D_ldso (vs := [.int .i64 x.res, .slice x.tasks.oad x.tasks.l.length x.tasks.c, .slice x.modes.oad x.modes.l.length x.modes.c, .slice x.edges.oad x.edges.l.length x.edges.c]) rfl (by repeat first | with_reducible exact .here _ _ | with_reducible apply Out.there | with_reducible apply Out.app) tk_95 rfl (by rfl)) rfl ?_
              refine XA_detp 17 rfl (by kernel_rfl) (by kernel_rfl) (by kernel_rfl) (fun _ _ _ _ h => h) (.yes 99 rfl rfl rfl) (D_pureP rfl) rfl ?_
              refine XA_one 16 (by kernel_rfl) ?_
              refine XO_callc rfl (.yes 99 rfl rfl rfl) en_50 rfl (by repeat first | with_reducible exact .nil _ | with_reducible apply App.cons) (ldead x hx (by omega)) (by repeat first | with_reducible exact .nil _ | with_reducible exact .here _ _ | with_reducible exact Take.self _ | with_reducible apply Take.cons | with_reducible apply Out.there | with_reducible apply Take.skip | with_reducible exact Take.pre _ _ | with_reducible apply Out.app) rfl ?_
              rintro _ _ ⟨dd, ⟨hdd, hddo⟩, rfl, rfl⟩
              simp only [List.cons_append, List.nil_append]
              refine ⟨[row (.slice dd.oad dd.l.length dd.c) 3 1 dd.l.length (dd.l.flatMap encI), row (.slice nx.oad nx.l.length nx.c) 3 1 nx.l.length (nx.l.flatMap encI), row (.slice a.oad a.l.length a.c) 3 1 a.l.length (a.l.flatMap encI), row (.slice c.oad c.l.length c.c) 3 1 c.l.length (c.l.flatMap encI)], _, _, (by repeat first | with_reducible exact .nil _ | with_reducible apply App.cons), (by repeat first | with_reducible exact .nil _ | with_reducible exact .here _ _ | with_reducible exact Take.self _ | with_reducible apply Take.cons | with_reducible apply Out.there | with_reducible apply Take.skip | with_reducible exact Take.pre _ _ | with_reducible apply Out.app), ?_⟩
              refine XA_one 18 (by kernel_rfl) ?_
              refine XO_callk rfl (.yes 99 rfl rfl rfl) en_46 rfl (by repeat first | with_reducible exact .nil _ | with_reducible apply App.cons) (lrow (K1 := row (.slice dd.oad dd.l.length dd.c) 3 1 dd.l.length (dd.l.flatMap encI)) (K2 := row (.slice c.oad c.l.length c.c) 3 1 c.l.length (c.l.flatMap encI)) dd c (Rd_own hddo rfl) (Rd_own hco rfl)) (by repeat first | with_reducible exact .nil _ | with_reducible exact .here _ _ | with_reducible exact Take.self _ | with_reducible apply Take.cons | with_reducible apply Out.there | with_reducible apply Take.skip | with_reducible exact Take.pre _ _ | with_reducible apply Out.app) rfl ?_
              rw [decide_eq_true (show dd.l = c.l from by rw [hdd, hc, hkn])]
              refine XA_detp 19 rfl (by kernel_rfl) (by kernel_rfl) (by kernel_rfl) (fun _ _ _ _ h => h) .no (D_pureP rfl) rfl ?_
              refine XA_detp 20 rfl (by kernel_rfl) (by kernel_rfl) (by kernel_rfl) (fun _ _ _ _ h => h) .no (D_pureP rfl) rfl ?_
              refine XA_det 21 rfl (by kernel_rfl) (by kernel_rfl) (by kernel_rfl) (by kernel_rfl) (fun _ _ _ _ h => h) (.yes 105 rfl rfl rfl) (D_ldso (vs := [.int .i64 x.res, .slice x.tasks.oad x.tasks.l.length x.tasks.c, .slice x.modes.oad x.modes.l.length x.modes.c, .slice x.edges.oad x.edges.l.length x.edges.c]) rfl (by repeat first | with_reducible exact .here _ _ | with_reducible apply Out.there | with_reducible apply Out.app) tk_95 rfl (by rfl)) rfl ?_
              refine XA_detp 23 rfl (by kernel_rfl) (by kernel_rfl) (by kernel_rfl) (fun _ _ _ _ h => h) (.yes 105 rfl rfl rfl) (D_pureP rfl) rfl ?_
              refine XA_one 22 (by kernel_rfl) ?_
              refine XO_callk rfl (.yes 105 rfl rfl rfl) en_51 rfl (by repeat first | with_reducible exact .nil _ | with_reducible apply App.cons) (ground x hx hg hK) (by repeat first | with_reducible exact .nil _ | with_reducible exact .here _ _ | with_reducible exact Take.self _ | with_reducible apply Take.cons | with_reducible apply Out.there | with_reducible apply Take.skip | with_reducible exact Take.pre _ _ | with_reducible apply Out.app) rfl ?_
              refine XA_det 24 rfl (by kernel_rfl) (by kernel_rfl) (by kernel_rfl) (by kernel_rfl) (fun _ _ _ _ h => h) (.yes 105 rfl rfl rfl) (D_eqb (b := true) rfl rfl ub_4 (by rw [hkn, ← round_all (by omega)]; exact beq_self_eq_true _)) rfl ?_
              refine XA_detp 25 rfl (by kernel_rfl) (by kernel_rfl) (by kernel_rfl) (fun _ _ _ _ h => h) .no (D_pureP rfl) rfl ?_
              refine XA_detp 26 rfl (by kernel_rfl) (by kernel_rfl) (by kernel_rfl) (fun _ _ _ _ h => h) .no (D_pureP rfl) rfl ?_
              refine XA_one 27 (by kernel_rfl) ?_
              refine XO_callk rfl (.yes 111 rfl rfl rfl) en_52 rfl (by repeat first | with_reducible exact .nil _ | with_reducible apply App.cons) (galive hK) (by repeat first | with_reducible exact .nil _ | with_reducible exact .here _ _ | with_reducible exact Take.self _ | with_reducible apply Take.cons | with_reducible apply Out.there | with_reducible apply Take.skip | with_reducible exact Take.pre _ _ | with_reducible apply Out.app) rfl ?_
              refine XA_detp 28 rfl (by kernel_rfl) (by kernel_rfl) (by kernel_rfl) (fun _ _ _ _ h => h) .no (D_pureP rfl) rfl ?_
              refine XA_detp 29 rfl (by kernel_rfl) (by kernel_rfl) (by kernel_rfl) (fun _ _ _ _ h => h) .no (D_pureP rfl) rfl ?_
              refine XA_done (by kernel_rfl) ?_
              try simp only [List.cons_append, List.nil_append, List.append_nil]
              refine thenX_normal ?_
              refine X_ret ?_
              refine ret_ok (.nil _) (res_tmp rfl rfl) ?_
              exact ⟨_, ⟨rfl, rfl⟩, _, (by repeat first | with_reducible exact .nil _ | with_reducible exact .here _ _ | with_reducible exact Take.self _ | with_reducible apply Take.cons | with_reducible apply Out.there | with_reducible apply Take.skip | with_reducible exact Take.pre _ _ | with_reducible apply Out.app)⟩

end Go.Proofs.YtdimcgedcndndaaDoor
end

section
namespace Go.Proofs.YtdimcgedcndndaaDoor
open Go Go.Sl Go.ChangeShapes Go.WideShapes Go.ChangeAt Go.RowKit
set_option linter.unusedVariables false
abbrev tabT : Nat := 152
theorem ui_int : Tryd.prog.underlying 3 = some (.int .i64) := by kernel_rfl
theorem eqk_100 : eqKinds Tryd.prog 12 100 = some [some .i64, some .i64, some .i64, some .i64, some .i64, some .i64, some .i64, some .i64, some .i64, some .i64, some .i64, some .i64, some .i64, some .i64, some .i64, some .i64, some .i64, some .i64, some .i64, some .i64, some .i64, some .i64, some .i64] := by kernel_rfl
theorem eqk_150 : eqKinds Tryd.prog 12 150 = some [some .i64, some .i64, some .i64, some .i64, some .i64, some .i64, some .i64, some .i64, some .i64, some .i64, some .i64] := by kernel_rfl
theorem eqk_155 : eqKinds Tryd.prog 12 155 = some [some .i64, some .i64] := by kernel_rfl

theorem sz_task : (Tryd.prog.info? 150).map (·.size) = some 11 := by kernel_rfl
theorem sz_edge : (Tryd.prog.info? 100).map (·.size) = some 23 := by kernel_rfl
theorem sz_q : (Tryd.prog.info? 155).map (·.size) = some 2 := by kernel_rfl
theorem sl_tasks : slcOf Tryd.prog 91 = some (150, 11) := by kernel_rfl
theorem sl_modes : slcOf Tryd.prog 92 = some (133, 2) := by kernel_rfl
theorem sl_edges : slcOf Tryd.prog 93 = some (100, 23) := by kernel_rfl
theorem sl_qs : slcOf Tryd.prog 131 = some (155, 2) := by kernel_rfl
theorem shp_img : shp Tryd.prog 95 = some [3, 91, 92, 93] := by kernel_rfl
theorem shp_mode : shp Tryd.prog 133 = some [24, 131] := by kernel_rfl
theorem ui_u32 : Tryd.prog.underlying 24 = some (.int .u32) := by kernel_rfl
/-- The fields' bounds. -/
def okT (e : Nat → Int) : Prop := fitK e 0 [some .i64, some .i64, some .i64, some .i64, some .i64, some .i64, some .i64, some .i64, some .i64, some .i64, some .i64]
def okE (e : Nat → Int) : Prop := fitK e 0 [some .i64, some .i64, some .i64, some .i64, some .i64, some .i64, some .i64, some .i64, some .i64, some .i64, some .i64, some .i64, some .i64, some .i64, some .i64, some .i64, some .i64, some .i64, some .i64, some .i64, some .i64, some .i64, some .i64]
structure Img.Ok (x : Img) : Prop where
  tasks : ∀ e ∈ x.tasks.l, okT e
  edges : ∀ e ∈ x.edges.l, okE e
theorem openImg {W : World} {v : Value} (h : ArgOk Tryd.prog W 95 v) : ∃ x : Img, v = x.v ∧ x.In (old (B := W.heap.size) W) ∧ x.Ok := by
  obtain ⟨H, enc, cs, rfl, p0, q0, rfl, ⟨n0, x0, h0⟩, p1, q1, rfl, ⟨n1, x1, h1⟩, p2, q2, rfl, ⟨n2, x2, h2⟩, p3, q3, rfl, ⟨n3, x3, h3⟩, rfl⟩ := arg_struct shp_img h
  obtain ⟨res, rfl, _, _⟩ := DataW.trod_int ui_int h0
  obtain ⟨ta, rfl, t1, t2⟩ := Arr.of_trod (encA := encT) (ok := okT) sl_tasks (by decide) h1 (fun n cs x hx => flat_dec eqk_150 sz_task hx)
  obtain ⟨ed, rfl, e1, e2⟩ := Arr.of_trod (encA := encE) (ok := okE) sl_edges (by decide) h3 (fun n cs x hx => flat_dec eqk_100 sz_edge hx)
  obtain ⟨mo, rfl, m1, m2⟩ := Arr.of_trod (encA := encM) (ok := fun m => Rd (old (B := W.heap.size) W) m.q.ad (m.q.l.flatMap encQ)) sl_modes (by decide) h2 (fun n cs x hx => by
    obtain ⟨p0, q0, rfl, ⟨n0, x0, h0⟩, p1, q1, rfl, ⟨n1, x1, h1⟩, rfl⟩ := struct_parts shp_mode hx
    obtain ⟨b, rfl, _, hb⟩ := DataW.trod_int ui_u32 h0
    obtain ⟨b, rfl⟩ := u32_bv hb
    obtain ⟨q, rfl, _, q2⟩ := Arr.of_trod (encA := encQ) (ok := fun _ => True) sl_qs (by decide) h1 (fun n cs x hx => by
      obtain ⟨e, he, _⟩ := flat_dec eqk_155 sz_q hx
      exact ⟨e, he, trivial⟩)
    exact ⟨⟨b, q⟩, rfl, q2⟩)
  exact ⟨⟨res, ta, mo, ed⟩, rfl, ⟨t2, m2, e2, m1⟩, ⟨t1, e1⟩⟩

theorem own : ownKnob Tryd.prog.godebug = none := by kernel_rfl
theorem laidOut : laidOutB Tryd.prog = true := by kernel_rfl
abbrev laidT : List (String × DataW Unit) := [("math/bits.deBruijn32tab", Rows.laid_math_bits_deBruijn32tab)]
set_option maxRecDepth 100000 in
theorem laidTab {W : World} (h : laidMetH Tryd.prog laidT W) : Rd (old (B := W.heap.size) W) ⟨0, 0, none⟩ (tab32.map fun m => .int .u8 m) := by
  rw [MakeChecks.laidMetH_plain _ _ _ (by kernel_rfl)] at h
  rw [show laidT = [("math/bits.deBruijn32tab", .agg (tab32.map fun m => .lit (.int .u8 m)))] from by kernel_rfl] at h
  exact laid_row (tab := tab32) (t := tabT) (len := 32) (e := 5) (k := .u8) (by kernel_rfl) (by kernel_rfl) (by kernel_rfl) (by kernel_rfl) (by kernel_rfl) (by decide) h
theorem door_met (os : Os) (args : Array Value) : laidMetH Tryd.prog laidT ((World.doorLaid Tryd.prog 400 os).forCall (fun _ _ => 0) ⟨#[], args, []⟩).memory :=
  laidMetH_of_parts3 (fuel := 8) (laidMet_of_run' 8 (by kernel_rfl) (by kernel_rfl)) (by kernel_rfl) (by kernel_rfl)


set_option maxRecDepth 100000 in
/-- The walk, at the arguments as the row reads them. -/
theorem walkGraphReaches (W : World) (args : Array Value) (hL : laidMetH Tryd.prog laidT W) (h : ArgsOk Tryd.prog W Tryd.f8.params.toList args.toList) : Calls Tryd.prog 8 args W fun e w' => e = .returned (.bool true) ∧ Go.RowKit.Below W.heap.size W w' := by
  rw [show Tryd.f8.params.toList = [95, 3] from by kernel_rfl] at h
  obtain ⟨args⟩ := args
  match args, h with
  | [v0, v1], h =>
    have hK := laidTab hL
    obtain ⟨a0, a1, _⟩ := h
    obtain ⟨x, rfl, hx, _⟩ := openImg a0
    obtain ⟨m, rfl, _⟩ := arg_int ui_int a1
    exact calls_of (old_self W) (((graphReaches x hx m hK).dup (.here _ _) (old_dup W)).mono fun _ _ h => h.1)

set_option maxRecDepth 100000 in
theorem liftedGraphReaches (os : Os) (started : os.Started) (H : Type) (enc : TypeId × Value → H) :
    ReturnsInHanded {} Tryd.checked os 8 .any (fun w args => (Rows.graphReachesSpec.pre enc Tryd.prog Tryd.f8 [] false w args ∧ laidMetH Tryd.prog laidT w) ∧ sizedMet enc Tryd.prog Tryd.f8 (OpenSpec.ofChange Rows.graphReachesSpec) false w args) (Rows.graphReachesSpec.post enc Tryd.prog Tryd.f8 false true false false) :=
  handedL (C := Tryd.checked) (tb := 4) own started (by kernel_rfl) Tryd.func8 laidOut (by kernel_rfl) rfl
    (fun ds h => by
      have h : ds.length = 2 := h
      match ds, h with
      | [_, _], _ => exact ⟨rfl, rfl, rfl⟩) (by kernel_rfl) (by kernel_rfl)
    (ChangeSpec.witness_shaped (enc := enc) (C := Tryd.checked) (os := os) (X := fun w _ => laidMetH Tryd.prog laidT w) false (World.doorLaid Tryd.prog 400 os) #[.agg #[.int .i64 0, .slice none 0 0, .slice none 0 0, .slice none 0 0], .int .i64 0] 8 rfl (World.shaped_of_RefB (by kernel_rfl) (by kernel_rfl)) (by kernel_rfl) (by kernel_rfl) (by kernel_rfl) (door_met os _))
    (fun W args hL h => walkGraphReaches W args hL h)

theorem overGraphReaches : Rows.GraphReachesSaid :=
  OpenClaim.holds_of_wide 8 Tryd.f8 rfl rfl rfl rfl rfl rfl rfl ⟨rfl, rfl, rfl, rfl, rfl⟩ rfl rfl rfl rfl rfl (by kernel_rfl) Tryd.func8 (by kernel_rfl)
    (of_decide_eq_true (by kernel_rfl)) (by unfold Func.isWrapper; first | (rw [if_pos (by decide +kernel)]; kernel_rfl) | (rw [if_neg (by decide +kernel)]; exact ⟨rfl, rfl⟩))
    (fun os started H enc _ => liftedGraphReaches os started H enc)

/-- The statement: the tied card. -/
theorem provedGraphReaches : Rows.GraphReachesCardSaid :=
  Claim7.holds_tied_plain_at .later [] [.data] true (true, "3603e660136b1921cb9f742bc841b9ec612f393fc17fb7707fd169dd1f08532f") false
    overGraphReaches (fun _ h => by cases h) (by kernel_rfl) (fun _ h => by cases h) graphReaches_row_tie rfl ⟨rfl, rfl⟩ (by kernel_rfl) rfl
    (fun f fn hf hfn => by
      obtain rfl : f = 8 := Option.some.inj ((show Tryd.prog.funcNamed "remontoir/remontoirlaw13.GraphReaches" = some 8 by kernel_rfl).symm.trans hf) |>.symm
      obtain rfl : fn = Tryd.f8 := (Option.some.inj (Tryd.func8.symm.trans hfn)).symm
      exact ⟨by kernel_rfl, fun j t ht => by
        have ht : t ∈ Tryd.f8.params.toList := by simpa using Array.mem_of_getElem? ht
        rw [show Tryd.f8.params.toList = [95, 3] from by kernel_rfl] at ht
        have hall : ([95, 3].all fun u => !Tryd.prog.wantsStandIn u) = true := by kernel_rfl
        exact (show Tryd.prog.wantsStandIn t = false by simpa using List.all_eq_true.1 hall t ht)⟩)
    (by kernel_rfl)

#print axioms provedGraphReaches
end Go.Proofs.YtdimcgedcndndaaDoor
end
