/- The given statement GraphPathsCardSaid is proved: the way from one mode to another is the one of the document, of the fewest edges, and there is none just if the other one cannot be reached. Conditions: images that are right and not too great, as the statement itself says them; none beside. -/
import Derived.Test.YtdimcgedcndndaaDoorGraphPathsP2
import Derived.KernelRfl
import Derived.Test.YtdimcgedcndndaaDoorProg
import Derived.Test.YtdimcgedcndndaaDoorRows
import Derived.Test.YtdimcgedcndndaaDoorTie
import Derived.Test.YtdimcgedcndndaaDoorCards
import Derived.SevenTiedAt
import Derived.LaidMore
section
namespace Go.Proofs.YtdimcgedcndndaaDoor
open Go Go.Sl
set_option linter.unusedVariables false
set_option linter.unusedSimpArgs false
set_option maxRecDepth 4000
variable {B : Nat} {K : Asrt B}
theorem en_43 : Go.Proofs.Enters Tryd.prog 43 := Go.Proofs.enters_of Tryd.func43 (by kernel_rfl) rfl
theorem en_44 : Go.Proofs.Enters Tryd.prog 44 := Go.Proofs.enters_of Tryd.func44 (by kernel_rfl) rfl
theorem en_52 : Go.Proofs.Enters Tryd.prog 52 := Go.Proofs.enters_of Tryd.func52 (by kernel_rfl) rfl
theorem en_54 : Go.Proofs.Enters Tryd.prog 54 := Go.Proofs.enters_of Tryd.func54 (by kernel_rfl) rfl
theorem ub_4 : Tryd.prog.underlying 4 = some .bool := by kernel_rfl

theorem steps_in {x : Img} {f : Int} {j : Nat} (h : 0 ≤ stepsG x f j) : 0 ≤ f ∧ f < x.modes.l.length := by
  apply Classical.byContradiction; intro hc
  unfold stepsG at h; rw [if_neg hc] at h; omega
theorem steps_reach {x : Img} (hn : x.modes.l.length ≤ 8) {f t : Int} (ht : 0 ≤ t ∧ t < x.modes.l.length) : hasB (reachS x f) t = decide (0 ≤ stepsG x f t.toNat) := by
  have h2 := hasB_setOf (n := x.modes.l.length) (p := fun i => decide (0 ≤ stepsG x f i)) (i := t.toNat) (by omega)
  rw [show ((t.toNat : Nat) : Int) = t by omega, decide_eq_true (show t.toNat < x.modes.l.length by omega), Bool.true_and] at h2
  exact h2
theorem reach_not {x : Img} {f t : Int} (h : ¬ (0 ≤ t ∧ t < x.modes.l.length)) : hasB (reachS x f) t = false := by
  rw [Bool.eq_false_iff]; intro hc
  exact h (reach_in hc).2.1
theorem path_no {x : Img} {f t : Int} (h : hasB (reachS x f) t = false) : pathG x f t = [] := by unfold pathG; rw [h]; rfl
theorem path_yes {x : Img} (hg : GOk x) {f t : Int} (h : hasB (reachS x f) t = true) : pathG x f t = pathR x f.toNat t ∧ ((pathG x f t).length : Int) = stepsG x f t.toNat + 1 := by
  obtain ⟨hf, ht, hd⟩ := reach_in h
  have hfn : f.toNat < x.modes.l.length := by omega
  have hm := bq_all (eok hg) hfn (t := t.toNat) (by omega) hd
  rw [show ((t.toNat : Nat) : Int) = t by omega] at hm
  have e1 : pathG x f t = chain (bq x.edges.l f.toNat x.modes.l.length) (fidx (bq x.edges.l f.toNat x.modes.l.length) t + 1) (fidx (bq x.edges.l f.toNat x.modes.l.length) t) := by unfold pathG; rw [if_pos h]
  refine ⟨by rw [e1]; unfold pathR; rw [if_pos hm], ?_⟩
  obtain ⟨k, hk, hkn, hst⟩ := bq_turn (eok hg) hfn
  have hb := binv (eok hg) hfn k (by omega)
  obtain ⟨p, hp⟩ := fidx_get hm
  rw [e1]
  rw [hst _ hkn] at hp ⊢
  rw [chain_len hb _ _ t p (by omega) hp]
  unfold stepsG; rw [if_pos hf]
theorem stepsG_le {x : Img} (hn : x.modes.l.length ≤ 8) (f : Int) (j : Nat) : stepsG x f j ≤ 8 := by
  unfold stepsG; split
  · have := stg_le x.edges.l f.toNat x.modes.l.length j; omega
  · show (-1 : Int) ≤ 8; omega

theorem graphPaths (x : Img) (hx : x.In K) (f t : Int) {Kt : Asrt B} (hK : Rd Kt ⟨0, 0, none⟩ (tab32.map fun m => .int .u8 m)) : Ctr Tryd.prog B 9 [x.v, .int .i64 f, .int .i64 t] [K, Kt] (fun v S => v = .bool true ∧ S = [K, Kt]) := by
  refine Ctr_of_X (N := 74) Tryd.func9 rfl (by simp) rfl ?_
  intro w0 D0
  refine X_seq ?_
  refine X_region ?_
  refine XL_box (cs := [.int .i64 x.res, .slice x.tasks.oad x.tasks.l.length x.tasks.c, .slice x.modes.oad x.modes.l.length x.modes.c, .slice x.edges.oad x.edges.l.length x.edges.c]) .no rfl rfl rfl (fun b1 => ?_)
  refine XL_det .no (D_pure rfl) rfl ?_
  refine XL_then ?_
  refine X_seq ?_
  refine X_seq ?_
  refine X_region ?_
  refine XL_det .no (D_ldso (vs := [.int .i64 x.res, .slice x.tasks.oad x.tasks.l.length x.tasks.c, .slice x.modes.oad x.modes.l.length x.modes.c, .slice x.edges.oad x.edges.l.length x.edges.c]) rfl (by repeat first | with_reducible exact .here _ _ | with_reducible apply Out.there | with_reducible apply Out.app) tk_95 rfl (by rfl)) rfl ?_
  refine XL_callk .no en_43 rfl (rgreat x hx) (by repeat first | with_reducible exact .nil _ | with_reducible exact .here _ _ | with_reducible exact Take.self _ | with_reducible apply Take.cons | with_reducible apply Out.there | with_reducible apply Take.skip | with_reducible exact Take.pre _ _ | with_reducible apply Out.app) rfl ?_
  refine XL_det .no (D_pure rfl) rfl ?_
  refine XL_split (t := 12) rfl (fun h1 => ?_) (fun h1 => ?_)
  · try simp only [decide_eq_true_eq, decide_eq_false_iff_not, Bool.not_eq_true', Bool.not_eq_false', beq_iff_eq, bne_iff_ne, beq_eq_false_iff_ne, bne_eq_false_iff_eq, Int.not_lt, Int.not_le, gt_iff_lt, ge_iff_le, ne_eq] at h1
    refine XL_skip 12 rfl rfl rfl rfl rfl ?_
    refine XL_skip 12 rfl rfl rfl rfl rfl ?_
    refine XL_skip 12 rfl rfl rfl rfl rfl ?_
    refine XL_det .no (D_pure rfl) rfl ?_
    refine XL_then ?_
    refine X_cond_t rfl rfl ?_
    refine X_seq ?_
    refine X_region ?_
    refine XL_det .no (D_pure rfl) rfl ?_
    refine XL_then ?_
    refine X_ret ?_
    refine thenX_ret ?_
    refine ret_ok (.nil _) (res_tmp rfl rfl) ?_
    exact ⟨_, ⟨rfl, rfl⟩, _, (by repeat first | with_reducible exact .nil _ | with_reducible exact .here _ _ | with_reducible exact Take.self _ | with_reducible apply Take.cons | with_reducible apply Out.there | with_reducible apply Take.skip | with_reducible exact Take.pre _ _ | with_reducible apply Out.app)⟩
  · try simp only [decide_eq_true_eq, decide_eq_false_iff_not, Bool.not_eq_true', Bool.not_eq_false', beq_iff_eq, bne_iff_ne, beq_eq_false_iff_ne, bne_eq_false_iff_eq, Int.not_lt, Int.not_le, gt_iff_lt, ge_iff_le, ne_eq] at h1
    refine XL_det (.yes 12 rfl rfl rfl) (D_ldso (vs := [.int .i64 x.res, .slice x.tasks.oad x.tasks.l.length x.tasks.c, .slice x.modes.oad x.modes.l.length x.modes.c, .slice x.edges.oad x.edges.l.length x.edges.c]) rfl (by repeat first | with_reducible exact .here _ _ | with_reducible apply Out.there | with_reducible apply Out.app) tk_95 rfl (by rfl)) rfl ?_
    refine XL_call (.yes 12 rfl rfl rfl) en_44 rfl (rright x hx h1) (by repeat first | with_reducible exact .nil _ | with_reducible exact .here _ _ | with_reducible exact Take.self _ | with_reducible apply Take.cons | with_reducible apply Out.there | with_reducible apply Take.skip | with_reducible exact Take.pre _ _ | with_reducible apply Out.app) rfl ?_
    rintro _ _ ⟨b, rfl, hb, rfl⟩
    simp only [List.cons_append, List.nil_append]
    refine XL_det (.yes 12 rfl rfl rfl) (D_pure rfl) rfl ?_
    refine XL_det .no (D_pure rfl) rfl ?_
    refine XL_then ?_
    refine X_cond rfl (fun h2 => ?_) (fun h2 => ?_)
    · try simp only [decide_eq_true_eq, decide_eq_false_iff_not, Bool.not_eq_true', Bool.not_eq_false', beq_iff_eq, bne_iff_ne, beq_eq_false_iff_ne, bne_eq_false_iff_eq, Int.not_lt, Int.not_le, gt_iff_lt, ge_iff_le, ne_eq] at h2
      refine X_seq ?_
      refine X_region ?_
      refine XL_det .no (D_pure rfl) rfl ?_
      refine XL_then ?_
      refine X_ret ?_
      refine thenX_ret ?_
      refine ret_ok (.nil _) (res_tmp rfl rfl) ?_
      exact ⟨_, ⟨rfl, rfl⟩, _, (by repeat first | with_reducible exact .nil _ | with_reducible exact .here _ _ | with_reducible exact Take.self _ | with_reducible apply Take.cons | with_reducible apply Out.there | with_reducible apply Take.skip | with_reducible exact Take.pre _ _ | with_reducible apply Out.app)⟩
    · try simp only [decide_eq_true_eq, decide_eq_false_iff_not, Bool.not_eq_true', Bool.not_eq_false', beq_iff_eq, bne_iff_ne, beq_eq_false_iff_ne, bne_eq_false_iff_eq, Int.not_lt, Int.not_le, gt_iff_lt, ge_iff_le, ne_eq] at h2
      have hr := hb h2
      have hg := hr.g
      have hnm := hr.nm
      have hne := hr.ne
      refine X_skip ?_
      refine thenX_normal ?_
      refine X_seq ?_
      refine X_region ?_
      refine XL_det .no (D_ldso (vs := [.int .i64 x.res, .slice x.tasks.oad x.tasks.l.length x.tasks.c, .slice x.modes.oad x.modes.l.length x.modes.c, .slice x.edges.oad x.edges.l.length x.edges.c]) rfl (by repeat first | with_reducible exact .here _ _ | with_reducible apply Out.there | with_reducible apply Out.app) tk_95 rfl (by rfl)) rfl ?_
      refine XL_det .no (D_pure rfl) rfl ?_
      refine XL_det .no (D_pure rfl) rfl ?_
      refine XL_call .no en_53 rfl (gpath x hx hg f t hK) (by repeat first | with_reducible exact .nil _ | with_reducible exact .here _ _ | with_reducible exact Take.self _ | with_reducible apply Take.cons | with_reducible apply Out.there | with_reducible apply Take.skip | with_reducible exact Take.pre _ _ | with_reducible apply Out.app) rfl ?_
      rintro _ _ ⟨o, ⟨ho, hoo⟩, rfl, rfl⟩
      simp only [List.cons_append, List.nil_append]
      refine XL_det .no (D_pure rfl) rfl ?_
      refine XL_det .no (D_pure (v := .slice o.oad o.l.length o.c) rfl) rfl ?_
      refine XL_det .no (D_pure (v := .bool (hasB (reachS x f) t)) rfl) rfl ?_
      refine XL_det .no (D_pure rfl) rfl ?_
      refine XL_det .no (D_pure rfl) rfl ?_
      refine XL_then ?_
      refine X_seq ?_
      refine X_region ?_
      refine XL_det .no (D_ldso (vs := [.int .i64 x.res, .slice x.tasks.oad x.tasks.l.length x.tasks.c, .slice x.modes.oad x.modes.l.length x.modes.c, .slice x.edges.oad x.edges.l.length x.edges.c]) rfl (by repeat first | with_reducible exact .here _ _ | with_reducible apply Out.there | with_reducible apply Out.app) tk_95 rfl (by rfl)) rfl ?_
      refine XL_det .no (D_pure rfl) rfl ?_
      refine XL_call .no en_45 rfl (rsteps x hx hg f) (by repeat first | with_reducible exact .nil _ | with_reducible exact .here _ _ | with_reducible exact Take.self _ | with_reducible apply Take.cons | with_reducible apply Out.there | with_reducible apply Take.skip | with_reducible exact Take.pre _ _ | with_reducible apply Out.app) rfl ?_
      rintro _ _ ⟨l, ⟨hl, hlo⟩, rfl, rfl⟩
      simp only [List.cons_append, List.nil_append]
      have hll : l.l.length = x.modes.l.length := by rw [hl, rgI_len]
      refine XL_det .no (D_pure rfl) rfl ?_
      refine XL_then ?_
      refine X_seq ?_
      refine X_seq ?_
      refine X_region ?_
      refine XL_det .no (D_pure rfl) rfl ?_
      refine XL_det .no (D_pure rfl) rfl ?_
      refine XL_det .no (D_pure rfl) rfl ?_
      refine XL_split (t := 29) rfl (fun h3 => ?_) (fun h3 => ?_)
      · try simp only [decide_eq_true_eq, decide_eq_false_iff_not, Bool.not_eq_true', Bool.not_eq_false', beq_iff_eq, bne_iff_ne, beq_eq_false_iff_ne, bne_eq_false_iff_eq, Int.not_lt, Int.not_le, gt_iff_lt, ge_iff_le, ne_eq] at h3
        have hno : hasB (reachS x f) t = false := reach_not (by omega)
        have hol : o.l = [] := by rw [ho]; exact path_no hno
        rw [hno]
        refine XL_skip 29 rfl rfl rfl rfl rfl ?_
        refine XL_skip 29 rfl rfl rfl rfl rfl ?_
        refine XL_skip 29 rfl rfl rfl rfl rfl ?_
        refine XL_skip 29 rfl rfl rfl rfl rfl ?_
        refine XL_det .no (D_pure rfl) rfl ?_
        refine XL_det .no (D_pure rfl) rfl ?_
        refine XL_skip 35 rfl rfl rfl rfl rfl ?_
        refine XL_skip 35 rfl rfl rfl rfl rfl ?_
        refine XL_skip 35 rfl rfl rfl rfl rfl ?_
        refine XL_skip 35 rfl rfl rfl rfl rfl ?_
        refine XL_skip 35 rfl rfl rfl rfl rfl ?_
        refine XL_det .no (D_pure rfl) rfl ?_
        refine XL_then ?_
        refine X_cond_t rfl rfl ?_
        refine X_seq ?_
        refine X_region ?_
        refine XL_det .no (D_pure rfl) rfl ?_
        refine XL_det .no (D_pure rfl) rfl ?_
        refine XL_det .no (D_pure rfl) rfl ?_
        refine XL_det (.yes 44 rfl rfl rfl) (D_pure rfl) rfl ?_
        refine XL_det (.yes 44 rfl rfl rfl) (D_len rfl rfl slc_41) rfl ?_
        refine XL_det (.yes 44 rfl rfl rfl) (D_pure (v := .bool true) (btr (by rw [hol]; rfl))) rfl ?_
        refine XL_det .no (D_pure rfl) rfl ?_
        refine XL_det .no (D_pure rfl) rfl ?_
        refine XL_callk (.yes 49 rfl rfl rfl) en_52 rfl (galive hK) (by repeat first | with_reducible exact .nil _ | with_reducible exact .here _ _ | with_reducible exact Take.self _ | with_reducible apply Take.cons | with_reducible apply Out.there | with_reducible apply Take.skip | with_reducible exact Take.pre _ _ | with_reducible apply Out.app) rfl ?_
        refine XL_det .no (D_pure rfl) rfl ?_
        refine XL_det .no (D_pure rfl) rfl ?_
        refine XL_then ?_
        refine X_ret ?_
        refine thenX_ret ?_
        refine ret_ok (.nil _) (res_tmp rfl rfl) ?_
        exact ⟨_, ⟨rfl, rfl⟩, _, (by repeat first | with_reducible exact .nil _ | with_reducible exact .here _ _ | with_reducible exact Take.self _ | with_reducible apply Take.cons | with_reducible apply Out.there | with_reducible apply Take.skip | with_reducible exact Take.pre _ _ | with_reducible apply Out.app)⟩
      · try simp only [decide_eq_true_eq, decide_eq_false_iff_not, Bool.not_eq_true', Bool.not_eq_false', beq_iff_eq, bne_iff_ne, beq_eq_false_iff_ne, bne_eq_false_iff_eq, Int.not_lt, Int.not_le, gt_iff_lt, ge_iff_le, ne_eq] at h3
        refine XL_det (.yes 29 rfl rfl rfl) (D_pure rfl) rfl ?_
        refine XL_det (.yes 29 rfl rfl rfl) (D_pure rfl) rfl ?_
        refine XL_det (.yes 29 rfl rfl rfl) (D_len rfl rfl slc_41) rfl ?_
        refine XL_det (.yes 29 rfl rfl rfl) (D_pure rfl) rfl ?_
        refine XL_det .no (D_pure rfl) rfl ?_
        refine XL_det .no (D_pure rfl) rfl ?_
        refine XL_split (t := 35) rfl (fun h4 => ?_) (fun h4 => ?_)
        · try simp only [decide_eq_true_eq, decide_eq_false_iff_not, Bool.not_eq_true', Bool.not_eq_false', beq_iff_eq, bne_iff_ne, beq_eq_false_iff_ne, bne_eq_false_iff_eq, Int.not_lt, Int.not_le, gt_iff_lt, ge_iff_le, ne_eq] at h4
          have hno : hasB (reachS x f) t = false := reach_not (by omega)
          have hol : o.l = [] := by rw [ho]; exact path_no hno
          rw [hno]
          refine XL_skip 35 rfl rfl rfl rfl rfl ?_
          refine XL_skip 35 rfl rfl rfl rfl rfl ?_
          refine XL_skip 35 rfl rfl rfl rfl rfl ?_
          refine XL_skip 35 rfl rfl rfl rfl rfl ?_
          refine XL_skip 35 rfl rfl rfl rfl rfl ?_
          refine XL_det .no (D_pure rfl) rfl ?_
          refine XL_then ?_
          refine X_cond_t rfl rfl ?_
          refine X_seq ?_
          refine X_region ?_
          refine XL_det .no (D_pure rfl) rfl ?_
          refine XL_det .no (D_pure rfl) rfl ?_
          refine XL_det .no (D_pure rfl) rfl ?_
          refine XL_det (.yes 44 rfl rfl rfl) (D_pure rfl) rfl ?_
          refine XL_det (.yes 44 rfl rfl rfl) (D_len rfl rfl slc_41) rfl ?_
          refine XL_det (.yes 44 rfl rfl rfl) (D_pure (v := .bool true) (btr (by rw [hol]; rfl))) rfl ?_
          refine XL_det .no (D_pure rfl) rfl ?_
          refine XL_det .no (D_pure rfl) rfl ?_
          refine XL_callk (.yes 49 rfl rfl rfl) en_52 rfl (galive hK) (by repeat first | with_reducible exact .nil _ | with_reducible exact .here _ _ | with_reducible exact Take.self _ | with_reducible apply Take.cons | with_reducible apply Out.there | with_reducible apply Take.skip | with_reducible exact Take.pre _ _ | with_reducible apply Out.app) rfl ?_
          refine XL_det .no (D_pure rfl) rfl ?_
          refine XL_det .no (D_pure rfl) rfl ?_
          refine XL_then ?_
          refine X_ret ?_
          refine thenX_ret ?_
          refine ret_ok (.nil _) (res_tmp rfl rfl) ?_
          exact ⟨_, ⟨rfl, rfl⟩, _, (by repeat first | with_reducible exact .nil _ | with_reducible exact .here _ _ | with_reducible exact Take.self _ | with_reducible apply Take.cons | with_reducible apply Out.there | with_reducible apply Take.skip | with_reducible exact Take.pre _ _ | with_reducible apply Out.app)⟩
        · try simp only [decide_eq_true_eq, decide_eq_false_iff_not, Bool.not_eq_true', Bool.not_eq_false', beq_iff_eq, bne_iff_ne, beq_eq_false_iff_ne, bne_eq_false_iff_eq, Int.not_lt, Int.not_le, gt_iff_lt, ge_iff_le, ne_eq] at h4
          have hgt : l.l[t.toNat]? = some (stepsG x f t.toNat) := by rw [hl]; exact rgI_get (by omega)
          refine XL_det (.yes 35 rfl rfl rfl) (D_pure rfl) rfl ?_
          refine XL_det (.yes 35 rfl rfl rfl) (D_pure rfl) rfl ?_
          refine XL_det (.yes 35 rfl rfl rfl) (D_idxSo (j := t.toNat) rfl rfl slc_41 (l).nil0 (show t = ((t.toNat : Nat) : Int) by omega) (by omega) rfl) rfl ?_
          refine XL_det (.yes 35 rfl rfl rfl) (D_ela (enc := encI) (sz := 1) (i := t.toNat) (k := 0) (fun _ => rfl) rfl (by repeat first | with_reducible exact .here _ _ | with_reducible apply Out.there | with_reducible apply Out.app) (Rd_own hlo rfl) tk_3 hgt rfl) rfl ?_
          refine XL_det (.yes 35 rfl rfl rfl) (D_pure rfl) rfl ?_
          refine XL_det .no (D_pure rfl) rfl ?_
          refine XL_then ?_
          refine X_cond rfl (fun h5 => ?_) (fun h5 => ?_)
          · try simp only [decide_eq_true_eq, decide_eq_false_iff_not, Bool.not_eq_true', Bool.not_eq_false', beq_iff_eq, bne_iff_ne, beq_eq_false_iff_ne, bne_eq_false_iff_eq, Int.not_lt, Int.not_le, gt_iff_lt, ge_iff_le, ne_eq] at h5
            have hno : hasB (reachS x f) t = false := by rw [steps_reach (by omega) ⟨by omega, by omega⟩, decide_eq_false (by omega)]
            have hol : o.l = [] := by rw [ho]; exact path_no hno
            rw [hno]
            refine X_seq ?_
            refine X_region ?_
            refine XL_det .no (D_pure rfl) rfl ?_
            refine XL_det .no (D_pure rfl) rfl ?_
            refine XL_det .no (D_pure rfl) rfl ?_
            refine XL_det (.yes 44 rfl rfl rfl) (D_pure rfl) rfl ?_
            refine XL_det (.yes 44 rfl rfl rfl) (D_len rfl rfl slc_41) rfl ?_
            refine XL_det (.yes 44 rfl rfl rfl) (D_pure (v := .bool true) (btr (by rw [hol]; rfl))) rfl ?_
            refine XL_det .no (D_pure rfl) rfl ?_
            refine XL_det .no (D_pure rfl) rfl ?_
            refine XL_callk (.yes 49 rfl rfl rfl) en_52 rfl (galive hK) (by repeat first | with_reducible exact .nil _ | with_reducible exact .here _ _ | with_reducible exact Take.self _ | with_reducible apply Take.cons | with_reducible apply Out.there | with_reducible apply Take.skip | with_reducible exact Take.pre _ _ | with_reducible apply Out.app) rfl ?_
            refine XL_det .no (D_pure rfl) rfl ?_
            refine XL_det .no (D_pure rfl) rfl ?_
            refine XL_then ?_
            refine X_ret ?_
            refine thenX_ret ?_
            refine ret_ok (.nil _) (res_tmp rfl rfl) ?_
            exact ⟨_, ⟨rfl, rfl⟩, _, (by repeat first | with_reducible exact .nil _ | with_reducible exact .here _ _ | with_reducible exact Take.self _ | with_reducible apply Take.cons | with_reducible apply Out.there | with_reducible apply Take.skip | with_reducible exact Take.pre _ _ | with_reducible apply Out.app)⟩
          · try simp only [decide_eq_true_eq, decide_eq_false_iff_not, Bool.not_eq_true', Bool.not_eq_false', beq_iff_eq, bne_iff_ne, beq_eq_false_iff_ne, bne_eq_false_iff_eq, Int.not_lt, Int.not_le, gt_iff_lt, ge_iff_le, ne_eq] at h5
            have hyes : hasB (reachS x f) t = true := by rw [steps_reach (by omega) ⟨by omega, by omega⟩, decide_eq_true (by omega)]
            have hpy := path_yes hg hyes
            have hst := steps_in (show 0 ≤ (stepsG x f t.toNat) by omega)
            have hs8 := stepsG_le (x := x) (by omega) f t.toNat
            have hfn : f.toNat < x.modes.l.length := by omega
            have hfc : ((f.toNat : Nat) : Int) = f := by omega
            rw [hyes]
            refine X_skip ?_
            refine thenX_normal ?_
            refine X_seq ?_
            refine X_region ?_
            refine XL_det .no (D_pure rfl) rfl ?_
            refine XL_det .no (D_pure rfl) rfl ?_
            refine XL_det (.yes 53 rfl rfl rfl) (D_pure rfl) rfl ?_
            refine XL_det (.yes 53 rfl rfl rfl) (D_len rfl rfl slc_41) rfl ?_
            refine XL_det (.yes 53 rfl rfl rfl) (D_pure rfl) rfl ?_
            refine XL_det (.yes 53 rfl rfl rfl) (D_pure rfl) rfl ?_
            refine XL_det (.yes 53 rfl rfl rfl) (D_idxSo (j := t.toNat) rfl rfl slc_41 (l).nil0 (show t = ((t.toNat : Nat) : Int) by omega) (by omega) rfl) rfl ?_
            refine XL_det (.yes 53 rfl rfl rfl) (D_ela (enc := encI) (sz := 1) (i := t.toNat) (k := 0) (fun _ => rfl) rfl (by repeat first | with_reducible exact .here _ _ | with_reducible apply Out.there | with_reducible apply Out.app) (Rd_own hlo rfl) tk_3 hgt rfl) rfl ?_
            refine XL_det (.yes 53 rfl rfl rfl) (D_add rfl rfl (by omega) (by omega)) rfl ?_
            refine XL_det (.yes 53 rfl rfl rfl) (D_pure (v := .bool true) (btr (by rw [ho]; exact hpy.2))) rfl ?_
            refine XL_det .no (D_pure rfl) rfl ?_
            refine XL_det .no (D_pure rfl) rfl ?_
            refine XL_det (.yes 63 rfl rfl rfl) (D_pure rfl) rfl ?_
            refine XL_det (.yes 63 rfl rfl rfl) (D_ldso (vs := [.int .i64 x.res, .slice x.tasks.oad x.tasks.l.length x.tasks.c, .slice x.modes.oad x.modes.l.length x.modes.c, .slice x.edges.oad x.edges.l.length x.edges.c]) rfl (by repeat first | with_reducible exact .here _ _ | with_reducible apply Out.there | with_reducible apply Out.app) tk_95 rfl (by rfl)) rfl ?_
            refine XL_det (.yes 63 rfl rfl rfl) (D_pure rfl) rfl ?_
            refine XL_det (.yes 63 rfl rfl rfl) (D_pure rfl) rfl ?_
            refine XL_call (.yes 63 rfl rfl rfl) en_54 rfl ((by have h := rpath x hx hg f.toNat hfn t; rw [hfc] at h; exact h)) (by repeat first | with_reducible exact .nil _ | with_reducible exact .here _ _ | with_reducible exact Take.self _ | with_reducible apply Take.cons | with_reducible apply Out.there | with_reducible apply Take.skip | with_reducible exact Take.pre _ _ | with_reducible apply Out.app) rfl ?_
            rintro _ _ ⟨o2, ⟨ho2, ho2o⟩, rfl, rfl⟩
            simp only [List.cons_append, List.nil_append]
            refine XL_callk (.yes 63 rfl rfl rfl) en_46 rfl (lrow (K1 := row (.slice o.oad o.l.length o.c) 3 1 o.l.length (o.l.flatMap encI)) (K2 := row (.slice o2.oad o2.l.length o2.c) 3 1 o2.l.length (o2.l.flatMap encI)) o o2 (Rd_own hoo rfl) (Rd_own ho2o rfl)) (by repeat first | with_reducible exact .nil _ | with_reducible exact .here _ _ | with_reducible exact Take.self _ | with_reducible apply Take.cons | with_reducible apply Out.there | with_reducible apply Take.skip | with_reducible exact Take.pre _ _ | with_reducible apply Out.app) rfl ?_
            rw [decide_eq_true (show o.l = o2.l from by rw [ho, ho2]; exact hpy.1)]
            refine XL_det .no (D_pure rfl) rfl ?_
            refine XL_det .no (D_pure rfl) rfl ?_
            refine XL_callk (.yes 71 rfl rfl rfl) en_52 rfl (galive hK) (by repeat first | with_reducible exact .nil _ | with_reducible exact .here _ _ | with_reducible exact Take.self _ | with_reducible apply Take.cons | with_reducible apply Out.there | with_reducible apply Take.skip | with_reducible exact Take.pre _ _ | with_reducible apply Out.app) rfl ?_
            refine XL_det .no (D_pure rfl) rfl ?_
            refine XL_det .no (D_pure rfl) rfl ?_
            refine XL_then ?_
            refine X_ret ?_
            refine ret_ok (.nil _) (res_tmp rfl rfl) ?_
            exact ⟨_, ⟨rfl, rfl⟩, _, (by repeat first | with_reducible exact .nil _ | with_reducible exact .here _ _ | with_reducible exact Take.self _ | with_reducible apply Take.cons | with_reducible apply Out.there | with_reducible apply Take.skip | with_reducible exact Take.pre _ _ | with_reducible apply Out.app)⟩

end Go.Proofs.YtdimcgedcndndaaDoor
end

section
namespace Go.Proofs.YtdimcgedcndndaaDoor
open Go Go.Sl Go.ChangeShapes Go.WideShapes Go.ChangeAt Go.RowKit
set_option linter.unusedVariables false
abbrev tabT : Nat := 152
theorem ui_int : Tryd.prog.underlying 3 = some (.int .i64) := by kernel_rfl
theorem eqk_100 : eqKinds Tryd.prog 12 100 = some [some .i64, some .i64, some .i64, some .i64, some .i64, some .i64, some .i64, some .i64, some .i64, some .i64, some .i64, some .i64, some .i64, some .i64, some .i64, some .i64, some .i64, some .i64, some .i64, some .i64, some .i64, some .i64, some .i64] := by kernel_rfl
theorem eqk_150 : eqKinds Tryd.prog 12 150 = some [some .i64, some .i64, some .i64, some .i64, some .i64, some .i64, some .i64, some .i64, some .i64, some .i64, some .i64] := by kernel_rfl
theorem eqk_155 : eqKinds Tryd.prog 12 155 = some [some .i64, some .i64] := by kernel_rfl

theorem sz_task : (Tryd.prog.info? 150).map (·.size) = some 11 := by kernel_rfl
theorem sz_edge : (Tryd.prog.info? 100).map (·.size) = some 23 := by kernel_rfl
theorem sz_q : (Tryd.prog.info? 155).map (·.size) = some 2 := by kernel_rfl
theorem sl_tasks : slcOf Tryd.prog 91 = some (150, 11) := by kernel_rfl
theorem sl_modes : slcOf Tryd.prog 92 = some (133, 2) := by kernel_rfl
theorem sl_edges : slcOf Tryd.prog 93 = some (100, 23) := by kernel_rfl
theorem sl_qs : slcOf Tryd.prog 131 = some (155, 2) := by kernel_rfl
theorem shp_img : shp Tryd.prog 95 = some [3, 91, 92, 93] := by kernel_rfl
theorem shp_mode : shp Tryd.prog 133 = some [24, 131] := by kernel_rfl
theorem ui_u32 : Tryd.prog.underlying 24 = some (.int .u32) := by kernel_rfl
/-- The fields' bounds. -/
def okT (e : Nat → Int) : Prop := fitK e 0 [some .i64, some .i64, some .i64, some .i64, some .i64, some .i64, some .i64, some .i64, some .i64, some .i64, some .i64]
def okE (e : Nat → Int) : Prop := fitK e 0 [some .i64, some .i64, some .i64, some .i64, some .i64, some .i64, some .i64, some .i64, some .i64, some .i64, some .i64, some .i64, some .i64, some .i64, some .i64, some .i64, some .i64, some .i64, some .i64, some .i64, some .i64, some .i64, some .i64]
structure Img.Ok (x : Img) : Prop where
  tasks : ∀ e ∈ x.tasks.l, okT e
  edges : ∀ e ∈ x.edges.l, okE e
theorem openImg {W : World} {v : Value} (h : ArgOk Tryd.prog W 95 v) : ∃ x : Img, v = x.v ∧ x.In (old (B := W.heap.size) W) ∧ x.Ok := by
  obtain ⟨H, enc, cs, rfl, p0, q0, rfl, ⟨n0, x0, h0⟩, p1, q1, rfl, ⟨n1, x1, h1⟩, p2, q2, rfl, ⟨n2, x2, h2⟩, p3, q3, rfl, ⟨n3, x3, h3⟩, rfl⟩ := arg_struct shp_img h
  obtain ⟨res, rfl, _, _⟩ := DataW.trod_int ui_int h0
  obtain ⟨ta, rfl, t1, t2⟩ := Arr.of_trod (encA := encT) (ok := okT) sl_tasks (by decide) h1 (fun n cs x hx => flat_dec eqk_150 sz_task hx)
  obtain ⟨ed, rfl, e1, e2⟩ := Arr.of_trod (encA := encE) (ok := okE) sl_edges (by decide) h3 (fun n cs x hx => flat_dec eqk_100 sz_edge hx)
  obtain ⟨mo, rfl, m1, m2⟩ := Arr.of_trod (encA := encM) (ok := fun m => Rd (old (B := W.heap.size) W) m.q.ad (m.q.l.flatMap encQ)) sl_modes (by decide) h2 (fun n cs x hx => by
    obtain ⟨p0, q0, rfl, ⟨n0, x0, h0⟩, p1, q1, rfl, ⟨n1, x1, h1⟩, rfl⟩ := struct_parts shp_mode hx
    obtain ⟨b, rfl, _, hb⟩ := DataW.trod_int ui_u32 h0
    obtain ⟨b, rfl⟩ := u32_bv hb
    obtain ⟨q, rfl, _, q2⟩ := Arr.of_trod (encA := encQ) (ok := fun _ => True) sl_qs (by decide) h1 (fun n cs x hx => by
      obtain ⟨e, he, _⟩ := flat_dec eqk_155 sz_q hx
      exact ⟨e, he, trivial⟩)
    exact ⟨⟨b, q⟩, rfl, q2⟩)
  exact ⟨⟨res, ta, mo, ed⟩, rfl, ⟨t2, m2, e2, m1⟩, ⟨t1, e1⟩⟩

theorem own : ownKnob Tryd.prog.godebug = none := by kernel_rfl
theorem laidOut : laidOutB Tryd.prog = true := by kernel_rfl
abbrev laidT : List (String × DataW Unit) := [("math/bits.deBruijn32tab", Rows.laid_math_bits_deBruijn32tab)]
set_option maxRecDepth 100000 in
theorem laidTab {W : World} (h : laidMetH Tryd.prog laidT W) : Rd (old (B := W.heap.size) W) ⟨0, 0, none⟩ (tab32.map fun m => .int .u8 m) := by
  rw [MakeChecks.laidMetH_plain _ _ _ (by kernel_rfl)] at h
  rw [show laidT = [("math/bits.deBruijn32tab", .agg (tab32.map fun m => .lit (.int .u8 m)))] from by kernel_rfl] at h
  exact laid_row (tab := tab32) (t := tabT) (len := 32) (e := 5) (k := .u8) (by kernel_rfl) (by kernel_rfl) (by kernel_rfl) (by kernel_rfl) (by kernel_rfl) (by decide) h
theorem door_met (os : Os) (args : Array Value) : laidMetH Tryd.prog laidT ((World.doorLaid Tryd.prog 400 os).forCall (fun _ _ => 0) ⟨#[], args, []⟩).memory :=
  laidMetH_of_parts3 (fuel := 8) (laidMet_of_run' 8 (by kernel_rfl) (by kernel_rfl)) (by kernel_rfl) (by kernel_rfl)


set_option maxRecDepth 100000 in
/-- The walk, at the arguments as the row reads them. -/
theorem walkGraphPaths (W : World) (args : Array Value) (hL : laidMetH Tryd.prog laidT W) (h : ArgsOk Tryd.prog W Tryd.f9.params.toList args.toList) : Calls Tryd.prog 9 args W fun e w' => e = .returned (.bool true) ∧ Go.RowKit.Below W.heap.size W w' := by
  rw [show Tryd.f9.params.toList = [95, 3, 3] from by kernel_rfl] at h
  obtain ⟨args⟩ := args
  match args, h with
  | [v0, v1, v2], h =>
    have hK := laidTab hL
    obtain ⟨a0, a1, a2, _⟩ := h
    obtain ⟨x, rfl, hx, _⟩ := openImg a0
    obtain ⟨f, rfl, _⟩ := arg_int ui_int a1
    obtain ⟨t, rfl, _⟩ := arg_int ui_int a2
    exact calls_of (old_self W) (((graphPaths x hx f t hK).dup (.here _ _) (old_dup W)).mono fun _ _ h => h.1)

set_option maxRecDepth 100000 in
theorem liftedGraphPaths (os : Os) (started : os.Started) (H : Type) (enc : TypeId × Value → H) :
    ReturnsInHanded {} Tryd.checked os 9 .any (fun w args => (Rows.graphPathsSpec.pre enc Tryd.prog Tryd.f9 [] false w args ∧ laidMetH Tryd.prog laidT w) ∧ sizedMet enc Tryd.prog Tryd.f9 (OpenSpec.ofChange Rows.graphPathsSpec) false w args) (Rows.graphPathsSpec.post enc Tryd.prog Tryd.f9 false true false false) :=
  handedL (C := Tryd.checked) (tb := 4) own started (by kernel_rfl) Tryd.func9 laidOut (by kernel_rfl) rfl
    (fun ds h => by
      have h : ds.length = 3 := h
      match ds, h with
      | [_, _, _], _ => exact ⟨rfl, rfl, rfl⟩) (by kernel_rfl) (by kernel_rfl)
    (ChangeSpec.witness_shaped (enc := enc) (C := Tryd.checked) (os := os) (X := fun w _ => laidMetH Tryd.prog laidT w) false (World.doorLaid Tryd.prog 400 os) #[.agg #[.int .i64 0, .slice none 0 0, .slice none 0 0, .slice none 0 0], .int .i64 0, .int .i64 0] 8 rfl (World.shaped_of_RefB (by kernel_rfl) (by kernel_rfl)) (by kernel_rfl) (by kernel_rfl) (by kernel_rfl) (door_met os _))
    (fun W args hL h => walkGraphPaths W args hL h)

theorem overGraphPaths : Rows.GraphPathsSaid :=
  OpenClaim.holds_of_wide 9 Tryd.f9 rfl rfl rfl rfl rfl rfl rfl ⟨rfl, rfl, rfl, rfl, rfl⟩ rfl rfl rfl rfl rfl (by kernel_rfl) Tryd.func9 (by kernel_rfl)
    (of_decide_eq_true (by kernel_rfl)) (by unfold Func.isWrapper; first | (rw [if_pos (by decide +kernel)]; kernel_rfl) | (rw [if_neg (by decide +kernel)]; exact ⟨rfl, rfl⟩))
    (fun os started H enc _ => liftedGraphPaths os started H enc)

/-- The statement: the tied card. -/
theorem provedGraphPaths : Rows.GraphPathsCardSaid :=
  Claim7.holds_tied_plain_at .later [] [.data] true (true, "3603e660136b1921cb9f742bc841b9ec612f393fc17fb7707fd169dd1f08532f") false
    overGraphPaths (fun _ h => by cases h) (by kernel_rfl) (fun _ h => by cases h) graphPaths_row_tie rfl ⟨rfl, rfl⟩ (by kernel_rfl) rfl
    (fun f fn hf hfn => by
      obtain rfl : f = 9 := Option.some.inj ((show Tryd.prog.funcNamed "remontoir/remontoirlaw13.GraphPaths" = some 9 by kernel_rfl).symm.trans hf) |>.symm
      obtain rfl : fn = Tryd.f9 := (Option.some.inj (Tryd.func9.symm.trans hfn)).symm
      exact ⟨by kernel_rfl, fun j t ht => by
        have ht : t ∈ Tryd.f9.params.toList := by simpa using Array.mem_of_getElem? ht
        rw [show Tryd.f9.params.toList = [95, 3, 3] from by kernel_rfl] at ht
        have hall : ([95, 3, 3].all fun u => !Tryd.prog.wantsStandIn u) = true := by kernel_rfl
        exact (show Tryd.prog.wantsStandIn t = false by simpa using List.all_eq_true.1 hall t ht)⟩)
    (by kernel_rfl)

#print axioms provedGraphPaths
end Go.Proofs.YtdimcgedcndndaaDoor
end
