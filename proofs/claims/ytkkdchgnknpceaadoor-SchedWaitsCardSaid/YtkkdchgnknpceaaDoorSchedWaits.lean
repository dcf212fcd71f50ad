/- The given statement SchedWaitsCardSaid is proved: with the ceilings of all tasks, tasks behind a job run while it is there for at most as many ticks as the document reckons for blocking. Conditions: images that are right and not too great, at most 60 calls, 2,000 ticks, as the statement itself says them; none beside. -/
import Derived.Test.YtkkdchgnknpceaaDoorSchedWaitsP2
import Derived.KernelRfl
import Derived.Test.YtkkdchgnknpceaaDoorProg
import Derived.Test.YtkkdchgnknpceaaDoorRows
import Derived.Test.YtkkdchgnknpceaaDoorTie
import Derived.Test.YtkkdchgnknpceaaDoorCards
import Derived.SevenTiedAt
import Derived.LaidMore
section
namespace Go.Proofs.YtkkdchgnknpceaaDoor
open Go Go.Sl
set_option linter.unusedVariables false
set_option linter.unusedSimpArgs false
set_option maxRecDepth 4000
variable {B : Nat} {K : Asrt B}
theorem bld_53 : bldOf Tryd.prog 53 = some ([.int .i64 0, .int .i64 0, .int .i64 0, .bool false, .int .i64 0, .bool false], [(0, 1), (1, 1), (2, 1), (3, 1), (4, 1), (5, 1)]) := by kernel_rfl
theorem en_55 : Go.Proofs.Enters Tryd.prog 55 := Go.Proofs.enters_of Tryd.func55 (by kernel_rfl) rfl
theorem en_56 : Go.Proofs.Enters Tryd.prog 56 := Go.Proofs.enters_of Tryd.func56 (by kernel_rfl) rfl
theorem en_57 : Go.Proofs.Enters Tryd.prog 57 := Go.Proofs.enters_of Tryd.func57 (by kernel_rfl) rfl
theorem fld_45_1 : fldOff Tryd.prog 45 1 = some 1 := by kernel_rfl
theorem fld_53_1 : fldOff Tryd.prog 53 1 = some 1 := by kernel_rfl
theorem fld_53_2 : fldOff Tryd.prog 53 2 = some 2 := by kernel_rfl
theorem fld_53_3 : fldOff Tryd.prog 53 3 = some 3 := by kernel_rfl
theorem fld_53_4 : fldOff Tryd.prog 53 4 = some 4 := by kernel_rfl
theorem fld_53_5 : fldOff Tryd.prog 53 5 = some 5 := by kernel_rfl
theorem tk_53 : tyK Tryd.prog 53 = some (true, 6) := by kernel_rfl
theorem zero_53 : zeroOf Tryd.prog 53 = some [.int .i64 0, .int .i64 0, .int .i64 0, .bool false, .int .i64 0, .bool false] := by kernel_rfl

theorem rel_100 {s : Cr} {j : JC} (h : j.id < 0 ∨ j.id ≥ 16 ∨ j.done ≥ j.cost) : relErr s j = 100 := by unfold relErr; rw [if_pos h]
theorem rel_242 {s : Cr} {j : JC} (h : ¬ (j.id < 0 ∨ j.id ≥ 16 ∨ j.done ≥ j.cost)) (hl : hasB s.live j.id = true) : relErr s j = 242 := by unfold relErr; rw [if_neg h, if_pos hl]
theorem rel_0 {s : Cr} {j : JC} (h : ¬ (j.id < 0 ∨ j.id ≥ 16 ∨ j.done ≥ j.cost)) (hl : hasB s.live j.id = false) : relErr s j = 0 := by unfold relErr; rw [if_neg h, if_neg (by rw [hl]; decide)]
theorem relC_e {s : Cr} {j : JC} {a : Arr Sec} (h : relErr s j ≠ 0) : relC s j a = s := by unfold relC; rw [if_neg h]
theorem relC_0 {s : Cr} {j : JC} {a : Arr Sec} (h : relErr s j = 0) : relC s j a = ⟨upd s.jf j.id.toNat { j with secs := a }, s.live ||| bitv j.id, putR s.r j.id (levC s.tab j.id j.done a.l), s.tab, s.now⟩ := by unfold relC; rw [if_pos h]
theorem took_t {j : JC} (h1 : 0 ≤ takeR j.secs.l j.done) (h2 : hold j.secs.l j.done < 0) : takeR j.secs.l j.done = tookC j := by unfold tookC; rw [if_pos ⟨h1, h2⟩]
theorem took_f {j : JC} (h : ¬ (0 ≤ takeR j.secs.l j.done ∧ hold j.secs.l j.done < 0)) : -1 = tookC j := by unfold tookC; rw [if_neg h]
theorem gave_t {j : JC} (h1 : 0 ≤ takeR j.secs.l j.done) (h2 : hold j.secs.l (min (j.done + 1) j.cost) < 0) : takeR j.secs.l j.done = gaveC j := by unfold gaveC; rw [if_pos ⟨h1, h2⟩]
theorem gave_f {j : JC} (h : ¬ (0 ≤ takeR j.secs.l j.done ∧ hold j.secs.l (min (j.done + 1) j.cost) < 0)) : -1 = gaveC j := by unfold gaveC; rw [if_neg h]
theorem took_if (j : JC) : tookC j = if takeR j.secs.l j.done ≥ 0 ∧ hold j.secs.l j.done < 0 then takeR j.secs.l j.done else -1 := rfl

theorem srelease (c : Nat) (s : Cr) {Kj : Asrt B} (j : JC) (hj : Rd Kj j.secs.ad (j.secs.l.flatMap encS)) (hjo : j.secs.Own) (hsl : j.secs.l.length ≤ 1000) (hc : COk s) (hK : Rd K ⟨0, 0, none⟩ (tab32.map fun m => .int .u8 m)) : Ctr Tryd.prog B 15 [.pointer (some ⟨c, 0, none⟩), j.v] [blk c (crC s) 110, many 16 (rowS s.jf), Kj, K] (fun v S => ∃ a : Arr Sec, (a.l = j.secs.l ∧ a.Own ∧ v = .int .i64 (relErr s j)) ∧ S = [blk c (crC (relC s j a)) 110, many 16 (rowS (relC s j a).jf), Kj, K]) := by
  refine Ctr_of_X (N := 50) Tryd.func15 rfl (by simp) rfl ?_
  intro w0 D0
  refine X_rowa encS 123 3 ?_
  refine X_seq ?_
  refine X_region ?_
  refine XL_box (cs := encJ j) .no rfl rfl rfl (fun b1 => ?_)
  refine XL_det .no (D_pure rfl) rfl ?_
  refine XL_then ?_
  refine X_seq ?_
  refine X_block ?_
  refine X_seq ?_
  refine X_region ?_
  refine XL_det .no (D_fld rfl fld_45_0 (o' := 0) rfl) rfl ?_
  refine XL_det .no (D_ldo rfl (by repeat first | with_reducible exact .here _ _ | with_reducible apply Out.there | with_reducible apply Out.app) tk_3 (by rfl)) rfl ?_
  refine XL_det .no (D_pure rfl) rfl ?_
  refine XL_det .no (D_pure rfl) rfl ?_
  refine XL_split (t := 9) rfl (fun h1 => ?_) (fun h1 => ?_)
  · try simp only [decide_eq_true_eq, decide_eq_false_iff_not, Bool.not_eq_true', Bool.not_eq_false', beq_iff_eq, bne_iff_ne, beq_eq_false_iff_ne, bne_eq_false_iff_eq, Int.not_lt, Int.not_le, gt_iff_lt, ge_iff_le, ne_eq] at h1
    refine XL_skip 9 rfl rfl rfl rfl rfl ?_
    refine XL_skip 9 rfl rfl rfl rfl rfl ?_
    refine XL_skip 9 rfl rfl rfl rfl rfl ?_
    refine XL_det .no (D_pure rfl) rfl ?_
    refine XL_det .no (D_pure rfl) rfl ?_
    refine XL_skip 14 rfl rfl rfl rfl rfl ?_
    refine XL_skip 14 rfl rfl rfl rfl rfl ?_
    refine XL_det .no (D_pure rfl) rfl ?_
    refine XL_det .no (D_pure rfl) rfl ?_
    refine XL_then ?_
    refine X_cond_t rfl rfl ?_
    refine X_seq ?_
    refine X_region ?_
    refine XL_det .no (D_pure rfl) rfl ?_
    refine XL_then ?_
    refine X_ret ?_
    refine inBlk_ret ?_
    refine thenX_ret ?_
    refine ret_ok (.nil _) (res_tmp rfl rfl) ?_
    have he := rel_100 (s := s) (j := j) (by omega)
    exact ⟨[blk c (crC s) 110, many 16 (rowS s.jf), Kj, K], ⟨j.secs, ⟨rfl, hjo, by rw [he]⟩, by rw [relC_e (by omega)]⟩, _, (by repeat first | with_reducible exact .nil _ | with_reducible exact .here _ _ | exact .here _ _ | with_reducible exact Take.self _ | with_reducible apply Take.cons | with_reducible apply Out.there | with_reducible apply Take.skip | with_reducible exact Take.pre _ _ | with_reducible apply Out.app)⟩
  · try simp only [decide_eq_true_eq, decide_eq_false_iff_not, Bool.not_eq_true', Bool.not_eq_false', beq_iff_eq, bne_iff_ne, beq_eq_false_iff_ne, bne_eq_false_iff_eq, Int.not_lt, Int.not_le, gt_iff_lt, ge_iff_le, ne_eq] at h1
    refine XL_det (.yes 9 rfl rfl rfl) (D_fld rfl fld_45_0 (o' := 0) rfl) rfl ?_
    refine XL_det (.yes 9 rfl rfl rfl) (D_ldo rfl (by repeat first | with_reducible exact .here _ _ | with_reducible apply Out.there | with_reducible apply Out.app) tk_3 (by rfl)) rfl ?_
    refine XL_det (.yes 9 rfl rfl rfl) (D_pure rfl) rfl ?_
    refine XL_det .no (D_pure rfl) rfl ?_
    refine XL_det .no (D_pure rfl) rfl ?_
    refine XL_split (t := 14) rfl (fun h2 => ?_) (fun h2 => ?_)
    · try simp only [decide_eq_true_eq, decide_eq_false_iff_not, Bool.not_eq_true', Bool.not_eq_false', beq_iff_eq, bne_iff_ne, beq_eq_false_iff_ne, bne_eq_false_iff_eq, Int.not_lt, Int.not_le, gt_iff_lt, ge_iff_le, ne_eq] at h2
      refine XL_skip 14 rfl rfl rfl rfl rfl ?_
      refine XL_skip 14 rfl rfl rfl rfl rfl ?_
      refine XL_det .no (D_pure rfl) rfl ?_
      refine XL_det .no (D_pure rfl) rfl ?_
      refine XL_then ?_
      refine X_cond_t rfl rfl ?_
      refine X_seq ?_
      refine X_region ?_
      refine XL_det .no (D_pure rfl) rfl ?_
      refine XL_then ?_
      refine X_ret ?_
      refine inBlk_ret ?_
      refine thenX_ret ?_
      refine ret_ok (.nil _) (res_tmp rfl rfl) ?_
      have he := rel_100 (s := s) (j := j) (by omega)
      exact ⟨[blk c (crC s) 110, many 16 (rowS s.jf), Kj, K], ⟨j.secs, ⟨rfl, hjo, by rw [he]⟩, by rw [relC_e (by omega)]⟩, _, (by repeat first | with_reducible exact .nil _ | with_reducible exact .here _ _ | exact .here _ _ | with_reducible exact Take.self _ | with_reducible apply Take.cons | with_reducible apply Out.there | with_reducible apply Take.skip | with_reducible exact Take.pre _ _ | with_reducible apply Out.app)⟩
    · try simp only [decide_eq_true_eq, decide_eq_false_iff_not, Bool.not_eq_true', Bool.not_eq_false', beq_iff_eq, bne_iff_ne, beq_eq_false_iff_ne, bne_eq_false_iff_eq, Int.not_lt, Int.not_le, gt_iff_lt, ge_iff_le, ne_eq] at h2
      refine XL_det (.yes 14 rfl rfl rfl) (D_ldso (vs := encJ j) rfl (by repeat first | with_reducible exact .here _ _ | with_reducible apply Out.there | with_reducible apply Out.app) tk_45 rfl (by rfl)) rfl ?_
      refine XL_callv (.yes 14 rfl rfl rfl) en_50 rfl (jover j.id j.rel j.dl j.cost j.done j.secs) rfl ?_
      refine XL_det .no (D_pure rfl) rfl ?_
      refine XL_det .no (D_pure rfl) rfl ?_
      refine XL_then ?_
      refine X_cond rfl (fun h3 => ?_) (fun h3 => ?_)
      · try simp only [decide_eq_true_eq, decide_eq_false_iff_not, Bool.not_eq_true', Bool.not_eq_false', beq_iff_eq, bne_iff_ne, beq_eq_false_iff_ne, bne_eq_false_iff_eq, Int.not_lt, Int.not_le, gt_iff_lt, ge_iff_le, ne_eq] at h3
        refine X_seq ?_
        refine X_region ?_
        refine XL_det .no (D_pure rfl) rfl ?_
        refine XL_then ?_
        refine X_ret ?_
        refine inBlk_ret ?_
        refine thenX_ret ?_
        refine ret_ok (.nil _) (res_tmp rfl rfl) ?_
        have he := rel_100 (s := s) (j := j) (by omega)
        exact ⟨[blk c (crC s) 110, many 16 (rowS s.jf), Kj, K], ⟨j.secs, ⟨rfl, hjo, by rw [he]⟩, by rw [relC_e (by omega)]⟩, _, (by repeat first | with_reducible exact .nil _ | with_reducible exact .here _ _ | exact .here _ _ | with_reducible exact Take.self _ | with_reducible apply Take.cons | with_reducible apply Out.there | with_reducible apply Take.skip | with_reducible exact Take.pre _ _ | with_reducible apply Out.app)⟩
      · try simp only [decide_eq_true_eq, decide_eq_false_iff_not, Bool.not_eq_true', Bool.not_eq_false', beq_iff_eq, bne_iff_ne, beq_eq_false_iff_ne, bne_eq_false_iff_eq, Int.not_lt, Int.not_le, gt_iff_lt, ge_iff_le, ne_eq] at h3
        refine X_seq ?_
        refine X_draw _ mixed (Take.self _) ?_
        refine XA_detp 0 rfl (by kernel_rfl) (by kernel_rfl) (by kernel_rfl) (fun _ _ _ _ h => h) .no (D_pureP rfl) rfl ?_
        refine XA_detp 1 rfl (by kernel_rfl) (by kernel_rfl) (by kernel_rfl) (fun _ _ _ _ h => h) .no (D_nilckP rfl) rfl ?_
        refine XA_detp 2 rfl (by kernel_rfl) (by kernel_rfl) (by kernel_rfl) (fun _ _ _ _ h => h) .no (D_fldP rfl fld_110_1 (o' := 96) rfl) rfl ?_
        refine XA_det 3 rfl (by kernel_rfl) (by kernel_rfl) (by kernel_rfl) (by kernel_rfl) (fun _ _ _ _ h => h) .no (D_ldo rfl (by repeat first | with_reducible exact .here _ _ | with_reducible apply Out.there | with_reducible apply Out.app) tk_37 (cr_live _)) rfl ?_
        refine XA_detp 4 rfl (by kernel_rfl) (by kernel_rfl) (by kernel_rfl) (fun _ _ _ _ h => h) .no (D_fldP rfl fld_45_0 (o' := 0) rfl) rfl ?_
        refine XA_det 5 rfl (by kernel_rfl) (by kernel_rfl) (by kernel_rfl) (by kernel_rfl) (fun _ _ _ _ h => h) .no (D_ldo rfl (by repeat first | with_reducible exact .here _ _ | with_reducible apply Out.there | with_reducible apply Out.app) tk_3 (by rfl)) rfl ?_
        refine XA_one 6 (by kernel_rfl) ?_
        refine XO_callv rfl .no en_21 rfl (mHas s.live j.id) rfl ?_
        refine XA_detp 7 rfl (by kernel_rfl) (by kernel_rfl) (by kernel_rfl) (fun _ _ _ _ h => h) .no (D_pureP rfl) rfl ?_
        refine XA_done (by kernel_rfl) ?_
        try simp only [List.cons_append, List.nil_append, List.append_nil]
        refine thenX_normal ?_
        refine X_cond rfl (fun h4 => ?_) (fun h4 => ?_)
        · try simp only [decide_eq_true_eq, decide_eq_false_iff_not, Bool.not_eq_true', Bool.not_eq_false', beq_iff_eq, bne_iff_ne, beq_eq_false_iff_ne, bne_eq_false_iff_eq, Int.not_lt, Int.not_le, gt_iff_lt, ge_iff_le, ne_eq] at h4
          refine X_seq ?_
          refine X_region ?_
          refine XL_det .no (D_pure rfl) rfl ?_
          refine XL_then ?_
          refine X_ret ?_
          refine inBlk_ret ?_
          refine thenX_ret ?_
          refine ret_ok (.nil _) (res_tmp rfl rfl) ?_
          have he := rel_242 (s := s) (j := j) (by omega) h4
          exact ⟨[blk c (crC s) 110, many 16 (rowS s.jf), Kj, K], ⟨j.secs, ⟨rfl, hjo, by rw [he]⟩, by rw [relC_e (by omega)]⟩, _, (by repeat first | with_reducible exact .nil _ | with_reducible exact .here _ _ | exact .here _ _ | with_reducible exact Take.self _ | with_reducible apply Take.cons | with_reducible apply Out.there | with_reducible apply Take.skip | with_reducible exact Take.pre _ _ | with_reducible apply Out.app)⟩
        · try simp only [decide_eq_true_eq, decide_eq_false_iff_not, Bool.not_eq_true', Bool.not_eq_false', beq_iff_eq, bne_iff_ne, beq_eq_false_iff_ne, bne_eq_false_iff_eq, Int.not_lt, Int.not_le, gt_iff_lt, ge_iff_le, ne_eq] at h4
          obtain ⟨k, hk⟩ := Int.eq_ofNat_of_zero_le (a := j.id) (by omega)
          have hk16 : k < 16 := by omega
          have he : relErr s j = 0 := rel_0 (by omega) h4
          refine X_skip ?_
          refine inBlk_normal ?_
          refine thenX_normal ?_
          refine X_seq ?_
          refine X_region ?_
          refine XL_det .no (D_fld rfl fld_45_5 (o' := 5) rfl) rfl ?_
          refine XL_det .no (D_ldo rfl (by repeat first | with_reducible exact .here _ _ | with_reducible apply Out.there | with_reducible apply Out.app) tk_39 (by rfl)) rfl ?_
          refine XL_appa (enc := encS) (c := (Arr.emp : Arr Sec)) (b := j.secs) .no rfl rfl slt_39 (by repeat first | with_reducible exact .here _ _ | with_reducible apply Out.there | with_reducible apply Out.app) (by repeat first | with_reducible exact .here _ _ | with_reducible apply Out.there | with_reducible apply Out.app) (hj) (fun _ => rfl) (fun _ => rfl) (by show 0 + j.secs.l.length ≤ _; omega) (by show (0 + j.secs.l.length) * _ ≤ _; omega) rfl (fun a ha hao => ?_)
          replace ha : a.l = j.secs.l := ha
          refine XL_det .no (D_fld rfl fld_45_5 (o' := 5) rfl) rfl ?_
          refine XL_efd .no (F_stl rfl rfl rfl (by repeat first | with_reducible exact .here _ _ | with_reducible apply Out.there | with_reducible apply Out.app) tk_39 (by repeat first | exact .zero _ _ _ | apply SetL.succ)) ?_
          refine XL_then ?_
          refine X_seq ?_
          refine X_draw _ mixed (Take.self _) ?_
          refine XA_detp 0 rfl (by kernel_rfl) (by kernel_rfl) (by kernel_rfl) (fun _ _ _ _ h => h) .no (D_pureP rfl) rfl ?_
          refine XA_detp 1 rfl (by kernel_rfl) (by kernel_rfl) (by kernel_rfl) (fun _ _ _ _ h => h) .no (D_fldP rfl fld_45_0 (o' := 0) rfl) rfl ?_
          refine XA_det 2 rfl (by kernel_rfl) (by kernel_rfl) (by kernel_rfl) (by kernel_rfl) (fun _ _ _ _ h => h) .no (D_ldo rfl (by repeat first | with_reducible exact .here _ _ | with_reducible apply Out.there | with_reducible apply Out.app) tk_3 (by rfl)) rfl ?_
          refine XA_det 3 rfl (by kernel_rfl) (by kernel_rfl) (by kernel_rfl) (by kernel_rfl) (fun _ _ _ _ h => h) .no (D_ldso (vs := encJ { j with secs := a }) rfl (by repeat first | with_reducible exact .here _ _ | with_reducible apply Out.there | with_reducible apply Out.app) tk_45 rfl (by rfl)) rfl ?_
          refine XA_detp 4 rfl (by kernel_rfl) (by kernel_rfl) (by kernel_rfl) (fun _ _ _ _ h => h) .no (D_nilckP rfl) rfl ?_
          refine XA_detp 5 rfl (by kernel_rfl) (by kernel_rfl) (by kernel_rfl) (fun _ _ _ _ h => h) .no (D_fldP rfl fld_110_0 (o' := 0) rfl) rfl ?_
          refine XA_detp 6 rfl (by kernel_rfl) (by kernel_rfl) (by kernel_rfl) (fun _ _ _ _ h => h) .no (D_idxAP rfl rfl arr_105 hk (by omega) rfl) rfl ?_
          refine XA_one 7 (by kernel_rfl) ?_
          refine XO_efd rfl .no (by repeat first | with_reducible exact .nil _ | with_reducible apply App.cons) (F_sts (k := 0 + k * 6) (n := 6) (cs' := crC ⟨upd s.jf k { j with secs := a }, s.live, s.r, s.tab, s.now⟩) rfl rfl (by intro u hu; simp at hu; rcases hu with rfl | rfl | rfl | rfl | rfl | rfl <;> rfl) (by repeat first | with_reducible exact .here _ _ | with_reducible apply Out.there | with_reducible apply Out.app) tk_45 rfl (by rw [cr_len]; exact Nat.ble_eq_true_of_le (by omega)) (cr_stsjob s hk16 { j with secs := a })) (by kernel_rfl) ?_
          refine XA_done (by kernel_rfl) ?_
          try simp only [List.cons_append, List.nil_append, List.append_nil]
          refine thenX_normal ?_
          refine X_seq ?_
          refine X_draw _ mixed (Take.self _) ?_
          refine XA_detp 0 rfl (by kernel_rfl) (by kernel_rfl) (by kernel_rfl) (fun _ _ _ _ h => h) .no (D_pureP rfl) rfl ?_
          refine XA_detp 1 rfl (by kernel_rfl) (by kernel_rfl) (by kernel_rfl) (fun _ _ _ _ h => h) .no (D_pureP rfl) rfl ?_
          refine XA_detp 2 rfl (by kernel_rfl) (by kernel_rfl) (by kernel_rfl) (fun _ _ _ _ h => h) .no (D_nilckP rfl) rfl ?_
          refine XA_detp 3 rfl (by kernel_rfl) (by kernel_rfl) (by kernel_rfl) (fun _ _ _ _ h => h) .no (D_fldP rfl fld_110_1 (o' := 96) rfl) rfl ?_
          refine XA_det 4 rfl (by kernel_rfl) (by kernel_rfl) (by kernel_rfl) (by kernel_rfl) (fun _ _ _ _ h => h) .no (D_ldo rfl (by repeat first | with_reducible exact .here _ _ | with_reducible apply Out.there | with_reducible apply Out.app) tk_37 (cr_live _)) rfl ?_
          refine XA_detp 5 rfl (by kernel_rfl) (by kernel_rfl) (by kernel_rfl) (fun _ _ _ _ h => h) .no (D_fldP rfl fld_45_0 (o' := 0) rfl) rfl ?_
          refine XA_det 6 rfl (by kernel_rfl) (by kernel_rfl) (by kernel_rfl) (by kernel_rfl) (fun _ _ _ _ h => h) .no (D_ldo rfl (by repeat first | with_reducible exact .here _ _ | with_reducible apply Out.there | with_reducible apply Out.app) tk_3 (by rfl)) rfl ?_
          refine XA_one 7 (by kernel_rfl) ?_
          refine XO_callv rfl .no en_51 rfl (mWith s.live j.id) rfl ?_
          refine XA_detp 8 rfl (by kernel_rfl) (by kernel_rfl) (by kernel_rfl) (fun _ _ _ _ h => h) .no (D_nilckP rfl) rfl ?_
          refine XA_detp 9 rfl (by kernel_rfl) (by kernel_rfl) (by kernel_rfl) (fun _ _ _ _ h => h) .no (D_fldP rfl fld_110_1 (o' := 96) rfl) rfl ?_
          refine XA_one 10 (by kernel_rfl) ?_
          refine XO_efd rfl .no (by repeat first | with_reducible exact .nil _ | with_reducible apply App.cons) (F_st (k := 96) (cs' := crC ⟨upd s.jf k { j with secs := a }, s.live ||| bitv j.id, s.r, s.tab, s.now⟩) rfl rfl rfl (by repeat first | with_reducible exact .here _ _ | with_reducible apply Out.there | with_reducible apply Out.app) tk_37 (cr_lt _ (by omega)) (cr_setlive ⟨upd s.jf k { j with secs := a }, s.live, s.r, s.tab, s.now⟩ _)) (by kernel_rfl) ?_
          refine XA_done (by kernel_rfl) ?_
          try simp only [List.cons_append, List.nil_append, List.append_nil]
          refine thenX_normal ?_
          refine X_seq ?_
          refine X_region ?_
          refine XL_det .no (D_pure rfl) rfl ?_
          refine XL_det .no (D_ldso (vs := encJ { j with secs := a }) rfl (by repeat first | with_reducible exact .here _ _ | with_reducible apply Out.there | with_reducible apply Out.app) tk_45 rfl (by rfl)) rfl ?_
          refine XL_call .no en_48 rfl (slay c ⟨upd s.jf k { j with secs := a }, s.live ||| bitv j.id, s.r, s.tab, s.now⟩ (Kj := row (.slice a.oad a.l.length a.c) 123 3 a.l.length (a.l.flatMap encS)) { j with secs := a } (Rd_own hao rfl) hc.tab hc.r (by show 0 ≤ j.id ∧ j.id < 16; omega) hK) (by repeat first | with_reducible exact .nil _ | with_reducible exact .here _ _ | with_reducible exact Take.self _ | with_reducible apply Take.cons | with_reducible apply Out.there | with_reducible apply Take.skip | with_reducible exact Take.pre _ _ | with_reducible apply Out.app) rfl ?_
          rintro _ _ ⟨rfl, rfl⟩
          simp only [List.cons_append, List.nil_append]
          refine XL_many_out (d := k) hk16 (by repeat first | with_reducible exact .nil _ | with_reducible exact .here _ _ | with_reducible exact Take.self _ | with_reducible apply Take.cons | with_reducible apply Out.there | with_reducible apply Take.skip | with_reducible exact Take.pre _ _ | with_reducible apply Out.app) ?_
          refine XL_many_in (G := rowS1 { j with secs := a }) hk16 (by repeat first | with_reducible exact .nil _ | with_reducible exact .here _ _ | with_reducible exact Take.self _ | with_reducible apply Take.cons | with_reducible apply Out.there | with_reducible apply Take.skip | with_reducible exact Take.pre _ _ | with_reducible apply Out.app) ?_
          rw [rowS_upd]
          refine XL_then ?_
          refine X_seq ?_
          refine X_region ?_
          refine XL_det .no (D_pure rfl) rfl ?_
          refine XL_then ?_
          refine X_ret ?_
          refine ret_ok (.nil _) (res_tmp rfl rfl) ?_
          exact ⟨_, ⟨a, ⟨ha, hao, by rw [he]⟩, by rw [relC_0 he, show j.id.toNat = k by omega]⟩, _, (by repeat first | with_reducible exact .nil _ | with_reducible exact .here _ _ | exact .here _ _ | with_reducible exact Take.self _ | with_reducible apply Take.cons | with_reducible apply Out.there | with_reducible apply Take.skip | with_reducible exact Take.pre _ _ | with_reducible apply Out.app)⟩

theorem stick (c : Nat) (s : Cr) (hc : COk s) (hK : Rd K ⟨0, 0, none⟩ (tab32.map fun m => .int .u8 m)) : Ctr Tryd.prog B 20 [.pointer (some ⟨c, 0, none⟩)] [blk c (crC s) 110, many 16 (rowS s.jf), K] (fun v S => v = .agg (encR (tickC s).2).toArray ∧ S = [blk c (crC ((tickC s).1)) 110, many 16 (rowS (tickC s).1.jf), K]) := by
  refine Ctr_of_X (N := 106) Tryd.func20 rfl (by simp) rfl ?_
  intro w0 D0
  have hnow := hc.now
  refine X_seq ?_
  refine X_region ?_
  refine XL_alloc .no zero_53 rfl (fun b1 => ?_)
  refine XL_then ?_
  refine X_seq ?_
  refine X_region ?_
  refine XL_det .no (D_pure rfl) rfl ?_
  refine XL_det .no (D_nilck rfl) rfl ?_
  refine XL_det .no (D_fld rfl fld_110_2 (o' := 97) rfl) rfl ?_
  refine XL_callk .no en_53 rfl (rfirst c 110 (preC s) (postC s) (pre_len s) s.r hc.r hK) (by repeat first | with_reducible exact .nil _ | with_reducible exact .here _ _ | with_reducible exact Take.self _ | with_reducible apply Take.cons | with_reducible apply Out.there | with_reducible apply Take.skip | with_reducible exact Take.pre _ _ | with_reducible apply Out.app) rfl ?_
  refine XL_det .no (D_pure rfl) rfl ?_
  refine XL_det .no (D_pure (v := .int .i64 (firstR s.r).1) rfl) rfl ?_
  refine XL_det .no (D_pure (v := .bool (firstR s.r).2) rfl) rfl ?_
  refine XL_det .no (D_pure rfl) rfl ?_
  refine XL_det .no (D_pure rfl) rfl ?_
  refine XL_then ?_
  refine X_seq ?_
  refine X_region ?_
  refine XL_det .no (D_pure rfl) rfl ?_
  refine XL_det .no (D_nilck rfl) rfl ?_
  refine XL_det .no (D_fld rfl fld_110_4 (o' := 139) rfl) rfl ?_
  refine XL_det .no (D_ldo rfl (by repeat first | with_reducible exact .here _ _ | with_reducible apply Out.there | with_reducible apply Out.app) tk_3 (cr_now _)) rfl ?_
  refine XL_det .no (D_add rfl rfl (by omega) (by omega)) rfl ?_
  refine XL_det .no (D_nilck rfl) rfl ?_
  refine XL_det .no (D_fld rfl fld_110_4 (o' := 139) rfl) rfl ?_
  refine XL_efd .no (F_st (k := 139) (cs' := crC ⟨s.jf, s.live, s.r, s.tab, s.now + 1⟩) rfl rfl rfl (by repeat first | with_reducible exact .here _ _ | with_reducible apply Out.there | with_reducible apply Out.app) tk_3 (cr_lt s (by omega)) (cr_setnow s _)) ?_
  refine XL_then ?_
  refine X_seq ?_
  refine X_seq ?_
  refine X_region ?_
  refine XL_det .no (D_pure rfl) rfl ?_
  refine XL_det .no (D_pure rfl) rfl ?_
  refine XL_then ?_
  refine X_cond rfl (fun h1 => ?_) (fun h1 => ?_)
  · try simp only [decide_eq_true_eq, decide_eq_false_iff_not, Bool.not_eq_true', Bool.not_eq_false', beq_iff_eq, bne_iff_ne, beq_eq_false_iff_ne, bne_eq_false_iff_eq, Int.not_lt, Int.not_le, gt_iff_lt, ge_iff_le, ne_eq] at h1
    have htk := tick_no h1
    refine X_seq ?_
    refine X_region ?_
    refine XL_det .no (D_build [_, _, _, _, _, _] rfl bld_53 (by rfl)) rfl ?_
    refine XL_efd .no (F_stw rfl rfl rfl (by repeat first | with_reducible exact .here _ _ | with_reducible apply Out.there | with_reducible apply Out.app) tk_53 rfl rfl) ?_
    refine XL_then ?_
    refine X_ret ?_
    refine thenX_ret ?_
    refine ret_ok (.nil _) (res_cell rfl rfl (by repeat first | with_reducible exact .here _ _ | with_reducible apply Out.there | with_reducible apply Out.app) tk_53 (by rfl)) ?_
    exact ⟨_, ⟨by rw [htk], by rw [htk]⟩, _, (by repeat first | with_reducible exact .nil _ | with_reducible exact .here _ _ | exact .here _ _ | with_reducible exact Take.self _ | with_reducible apply Take.cons | with_reducible apply Out.there | with_reducible apply Take.skip | with_reducible exact Take.pre _ _ | with_reducible apply Out.app)⟩
  · try simp only [decide_eq_true_eq, decide_eq_false_iff_not, Bool.not_eq_true', Bool.not_eq_false', beq_iff_eq, bne_iff_ne, beq_eq_false_iff_ne, bne_eq_false_iff_eq, Int.not_lt, Int.not_le, gt_iff_lt, ge_iff_le, ne_eq] at h1
    obtain ⟨k, hk16, hkl, hk⟩ := first_live hc h1
    obtain ⟨hj1_, hid, hj0, hj1, hco0, hco1, hre0, hre1⟩ := hc.live k hkl
    rw [hk]
    refine X_skip ?_
    refine thenX_normal ?_
    refine X_seq ?_
    refine X_region ?_
    refine XL_det .no (D_pure rfl) rfl ?_
    refine XL_det .no (D_pure rfl) rfl ?_
    refine XL_det .no (D_nilck rfl) rfl ?_
    refine XL_det .no (D_fld rfl fld_110_0 (o' := 0) rfl) rfl ?_
    refine XL_det .no (D_idxA rfl rfl arr_105 rfl (by omega) rfl) rfl ?_
    refine XL_det .no (D_pure rfl) rfl ?_
    refine XL_then ?_
    refine X_seq ?_
    refine X_region ?_
    refine XL_det .no (D_pure rfl) rfl ?_
    refine XL_det .no (D_build [_, _, _, _, _, _] rfl bld_53 (by rfl)) rfl ?_
    refine XL_alloc .no zero_53 rfl (fun b2 => ?_)
    refine XL_efd .no (F_stw rfl rfl rfl (by repeat first | with_reducible exact .here _ _ | with_reducible apply Out.there | with_reducible apply Out.app) tk_53 rfl rfl) ?_
    refine XL_then ?_
    refine X_seq ?_
    refine X_draw [blk c (crC (⟨s.jf, s.live, s.r, s.tab, s.now + 1⟩ : Cr)) 110, many 16 (rowS s.jf)] mixed (by repeat first | with_reducible exact .nil _ | with_reducible exact .here _ _ | with_reducible exact Take.self _ | with_reducible apply Take.cons | with_reducible apply Out.there | with_reducible apply Take.skip | with_reducible exact Take.pre _ _ | with_reducible apply Out.app) ?_
    refine XA_detp 0 rfl (by kernel_rfl) (by kernel_rfl) (by kernel_rfl) (fun _ _ _ _ h => h) .no (D_pureP rfl) rfl ?_
    refine XA_detp 1 rfl (by kernel_rfl) (by kernel_rfl) (by kernel_rfl) (fun _ _ _ _ h => h) .no (D_nilckP rfl) rfl ?_
    refine XA_det 2 rfl (by kernel_rfl) (by kernel_rfl) (by kernel_rfl) (by kernel_rfl) (fun _ _ _ _ h => h) .no (D_ldso (vs := encJ (s.jf k)) rfl (by repeat first | with_reducible exact .here _ _ | with_reducible apply Out.there | with_reducible apply Out.app) tk_45 (by rw [cr_len]; exact Nat.ble_eq_true_of_le (by omega)) (cr_job ⟨s.jf, s.live, s.r, s.tab, s.now + 1⟩ hk16)) rfl ?_
    refine XA_detp 4 rfl (by kernel_rfl) (by kernel_rfl) (by kernel_rfl) (fun _ _ _ _ h => h) .no (D_pureP rfl) rfl ?_
    refine XA_detp 5 rfl (by kernel_rfl) (by kernel_rfl) (by kernel_rfl) (fun _ _ _ _ h => h) .no (D_nilckP rfl) rfl ?_
    refine XA_det 6 rfl (by kernel_rfl) (by kernel_rfl) (by kernel_rfl) (by kernel_rfl) (fun _ _ _ _ h => h) .no (D_ldso (vs := encJ (s.jf k)) rfl (by repeat first | with_reducible exact .here _ _ | with_reducible apply Out.there | with_reducible apply Out.app) tk_45 (by rw [cr_len]; exact Nat.ble_eq_true_of_le (by omega)) (cr_job ⟨s.jf, s.live, s.r, s.tab, s.now + 1⟩ hk16)) rfl ?_
    refine XA_one 3 (by kernel_rfl) ?_
    refine XO_callk rfl .no en_54 rfl (by repeat first | with_reducible exact .nil _ | with_reducible apply App.cons) (jhold (Kj := many 16 (rowS s.jf)) (s.jf k) (Rd_many hk16 (Rd_own (hc.own k hk16) rfl))) (by repeat first | with_reducible exact .nil _ | with_reducible exact .here _ _ | with_reducible exact Take.self _ | with_reducible apply Take.cons | with_reducible apply Out.there | with_reducible apply Take.skip | with_reducible exact Take.pre _ _ | with_reducible apply Out.app) rfl ?_
    refine XA_one 7 (by kernel_rfl) ?_
    refine XO_callk rfl .no en_55 rfl (by repeat first | with_reducible exact .nil _ | with_reducible apply App.cons) (jtake (Kj := many 16 (rowS s.jf)) (s.jf k) (Rd_many hk16 (Rd_own (hc.own k hk16) rfl))) (by repeat first | with_reducible exact .nil _ | with_reducible exact .here _ _ | with_reducible exact Take.self _ | with_reducible apply Take.cons | with_reducible apply Out.there | with_reducible apply Take.skip | with_reducible exact Take.pre _ _ | with_reducible apply Out.app) rfl ?_
    refine XA_detp 8 rfl (by kernel_rfl) (by kernel_rfl) (by kernel_rfl) (fun _ _ _ _ h => h) .no (D_pureP rfl) rfl ?_
    refine XA_detp 9 rfl (by kernel_rfl) (by kernel_rfl) (by kernel_rfl) (fun _ _ _ _ h => h) .no (D_pureP rfl) rfl ?_
    refine XA_done (by kernel_rfl) ?_
    try simp only [List.cons_append, List.nil_append, List.append_nil]
    refine thenX_normal ?_
    refine X_seqj (α := Unit) (fun _ => True) (fun _ => [(0, .pointer (some ⟨c, 0, none⟩)), (2, .pointer (some ⟨b1, 0, none⟩)), (3, .int .i64 (k : Int)), (5, .pointer (some ⟨c, 0 + k * 6, none⟩)), (6, .pointer (some ⟨b2, 0, none⟩)), (7, .int .i64 (hold (s.jf k).secs.l (s.jf k).done)), (8, .int .i64 (takeR (s.jf k).secs.l (s.jf k).done))]) (fun _ => [blk b1 [.int .i64 0, .int .i64 0, .int .i64 0, .bool false, .int .i64 0, .bool false] 53, blk b2 [.int .i64 (k : Int), .int .i64 (tookC (s.jf k)), .int .i64 (-1), .bool false, .int .i64 0, .bool false] 53, blk c (crC (⟨s.jf, s.live, s.r, s.tab, s.now + 1⟩ : Cr)) 110, many 16 (rowS s.jf), K]) ?_ ?_
    · skip
      refine X_seq ?_
      refine X_region ?_
      refine XL_det .no (D_pure rfl) rfl ?_
      refine XL_det .no (D_pure rfl) rfl ?_
      refine XL_det .no (D_pure rfl) rfl ?_
      refine XL_split (t := 43) rfl (fun h2 => ?_) (fun h2 => ?_)
      · try simp only [decide_eq_true_eq, decide_eq_false_iff_not, Bool.not_eq_true', Bool.not_eq_false', beq_iff_eq, bne_iff_ne, beq_eq_false_iff_ne, bne_eq_false_iff_eq, Int.not_lt, Int.not_le, gt_iff_lt, ge_iff_le, ne_eq] at h2
        refine XL_det (.yes 43 rfl rfl rfl) (D_pure rfl) rfl ?_
        refine XL_det (.yes 43 rfl rfl rfl) (D_pure rfl) rfl ?_
        refine XL_det .no (D_pure rfl) rfl ?_
        refine XL_then ?_
        refine X_cond rfl (fun h3 => ?_) (fun h3 => ?_)
        · try simp only [decide_eq_true_eq, decide_eq_false_iff_not, Bool.not_eq_true', Bool.not_eq_false', beq_iff_eq, bne_iff_ne, beq_eq_false_iff_ne, bne_eq_false_iff_eq, Int.not_lt, Int.not_le, gt_iff_lt, ge_iff_le, ne_eq] at h3
          refine X_region ?_
          refine XL_det .no (D_pure rfl) rfl ?_
          refine XL_det .no (D_fld rfl fld_53_1 (o' := 1) rfl) rfl ?_
          refine XL_efd .no (F_stl rfl rfl rfl (by repeat first | with_reducible exact .here _ _ | with_reducible apply Out.there | with_reducible apply Out.app) tk_3 (by repeat first | exact .zero _ _ _ | apply SetL.succ)) ?_
          refine XL_nil ?_
          rw [show (blk b2 [.int .i64 (k : Int), .int .i64 (takeR (s.jf k).secs.l (s.jf k).done), .int .i64 (-1), .bool false, .int .i64 0, .bool false] 53 : Asrt B) = blk b2 [.int .i64 (k : Int), .int .i64 (tookC (s.jf k)), .int .i64 (-1), .bool false, .int .i64 0, .bool false] 53 from by rw [took_t (by omega) (by omega)]]
          refine joinQ_normal () ?_ ?_ ?_
          · trivial
          · refine ⟨?_, ?_, ?_, ?_, ?_, ?_, ?_, trivial⟩ <;> rfl
          · exact ⟨_, (by repeat first | with_reducible exact .nil _ | with_reducible exact .here _ _ | with_reducible exact Take.self _ | with_reducible apply Take.cons | with_reducible apply Out.there | with_reducible apply Take.skip | with_reducible exact Take.pre _ _ | with_reducible apply Out.app)⟩
        · try simp only [decide_eq_true_eq, decide_eq_false_iff_not, Bool.not_eq_true', Bool.not_eq_false', beq_iff_eq, bne_iff_ne, beq_eq_false_iff_ne, bne_eq_false_iff_eq, Int.not_lt, Int.not_le, gt_iff_lt, ge_iff_le, ne_eq] at h3
          refine X_skip ?_
          rw [show (blk b2 [.int .i64 (k : Int), .int .i64 (-1), .int .i64 (-1), .bool false, .int .i64 0, .bool false] 53 : Asrt B) = blk b2 [.int .i64 (k : Int), .int .i64 (tookC (s.jf k)), .int .i64 (-1), .bool false, .int .i64 0, .bool false] 53 from by rw [show tookC (s.jf k) = -1 from (took_f (by omega)).symm]]
          refine joinQ_normal () ?_ ?_ ?_
          · trivial
          · refine ⟨?_, ?_, ?_, ?_, ?_, ?_, ?_, trivial⟩ <;> rfl
          · exact ⟨_, (by repeat first | with_reducible exact .nil _ | with_reducible exact .here _ _ | with_reducible exact Take.self _ | with_reducible apply Take.cons | with_reducible apply Out.there | with_reducible apply Take.skip | with_reducible exact Take.pre _ _ | with_reducible apply Out.app)⟩
      · try simp only [decide_eq_true_eq, decide_eq_false_iff_not, Bool.not_eq_true', Bool.not_eq_false', beq_iff_eq, bne_iff_ne, beq_eq_false_iff_ne, bne_eq_false_iff_eq, Int.not_lt, Int.not_le, gt_iff_lt, ge_iff_le, ne_eq] at h2
        refine XL_skip 43 rfl rfl rfl rfl rfl ?_
        refine XL_skip 43 rfl rfl rfl rfl rfl ?_
        refine XL_det .no (D_pure rfl) rfl ?_
        refine XL_then ?_
        refine X_cond_f rfl rfl ?_
        refine X_skip ?_
        rw [show (blk b2 [.int .i64 (k : Int), .int .i64 (-1), .int .i64 (-1), .bool false, .int .i64 0, .bool false] 53 : Asrt B) = blk b2 [.int .i64 (k : Int), .int .i64 (tookC (s.jf k)), .int .i64 (-1), .bool false, .int .i64 0, .bool false] 53 from by rw [show tookC (s.jf k) = -1 from (took_f (by omega)).symm]]
        refine joinQ_normal () ?_ ?_ ?_
        · trivial
        · refine ⟨?_, ?_, ?_, ?_, ?_, ?_, ?_, trivial⟩ <;> rfl
        · exact ⟨_, (by repeat first | with_reducible exact .nil _ | with_reducible exact .here _ _ | with_reducible exact Take.self _ | with_reducible apply Take.cons | with_reducible apply Out.there | with_reducible apply Take.skip | with_reducible exact Take.pre _ _ | with_reducible apply Out.app)⟩
    · rintro _ _
      refine X_seq ?_
      refine X_region ?_
      refine XL_det .no (D_pure rfl) rfl ?_
      refine XL_call .no en_56 rfl (swork c ⟨s.jf, s.live, s.r, s.tab, s.now + 1⟩ k hk16 hj0 hj1) (by repeat first | with_reducible exact .nil _ | with_reducible exact .here _ _ | with_reducible exact Take.self _ | with_reducible apply Take.cons | with_reducible apply Out.there | with_reducible apply Take.skip | with_reducible exact Take.pre _ _ | with_reducible apply Out.app) rfl ?_
      rintro _ _ ⟨rfl, rfl⟩
      simp only [List.cons_append, List.nil_append]
      refine XL_det .no (D_fld rfl fld_53_3 (o' := 3) rfl) rfl ?_
      refine XL_efd .no (F_stl rfl rfl rfl (by repeat first | with_reducible exact .here _ _ | with_reducible apply Out.there | with_reducible apply Out.app) tk_4 (by repeat first | exact .zero _ _ _ | apply SetL.succ)) ?_
      refine XL_then ?_
      refine X_seqj (α := Unit) (fun _ => True) (fun _ => [(0, .pointer (some ⟨c, 0, none⟩)), (2, .pointer (some ⟨b1, 0, none⟩)), (3, .int .i64 (k : Int)), (5, .pointer (some ⟨c, 0 + k * 6, none⟩)), (6, .pointer (some ⟨b2, 0, none⟩))]) (fun _ => [blk b1 [.int .i64 0, .int .i64 0, .int .i64 0, .bool false, .int .i64 0, .bool false] 53, blk b2 [.int .i64 (k : Int), .int .i64 (tookC (s.jf k)), .int .i64 (gaveC (s.jf k)), .bool (decide (min ((s.jf k).done + 1) (s.jf k).cost ≥ (s.jf k).cost)), .int .i64 0, .bool false] 53, blk c (crC (⟨upd s.jf k (stepJ (s.jf k)), s.live, s.r, s.tab, s.now + 1⟩ : Cr)) 110, many 16 (rowS s.jf), K]) ?_ ?_
      · skip
        refine X_seq ?_
        refine X_region ?_
        refine XL_det .no (D_pure rfl) rfl ?_
        refine XL_det .no (D_pure rfl) rfl ?_
        refine XL_det .no (D_pure rfl) rfl ?_
        refine XL_split (t := 54) rfl (fun h4 => ?_) (fun h4 => ?_)
        · try simp only [decide_eq_true_eq, decide_eq_false_iff_not, Bool.not_eq_true', Bool.not_eq_false', beq_iff_eq, bne_iff_ne, beq_eq_false_iff_ne, bne_eq_false_iff_eq, Int.not_lt, Int.not_le, gt_iff_lt, ge_iff_le, ne_eq] at h4
          refine XL_det (.yes 54 rfl rfl rfl) (D_pure rfl) rfl ?_
          refine XL_det (.yes 54 rfl rfl rfl) (D_nilck rfl) rfl ?_
          refine XL_det (.yes 54 rfl rfl rfl) (D_ldso (vs := encJ (stepJ (s.jf k))) rfl (by repeat first | with_reducible exact .here _ _ | with_reducible apply Out.there | with_reducible apply Out.app) tk_45 (by rw [cr_len]; exact Nat.ble_eq_true_of_le (by omega)) ((cr_job ⟨upd s.jf k (stepJ (s.jf k)), s.live, s.r, s.tab, s.now + 1⟩ hk16).trans (by show encJ (upd s.jf k (stepJ (s.jf k)) k) = _; rw [upd_same]))) rfl ?_
          refine XL_callk (.yes 54 rfl rfl rfl) en_54 rfl (jhold (Kj := many 16 (rowS s.jf)) (stepJ (s.jf k)) (Rd_many hk16 (Rd_own (hc.own k hk16) rfl))) (by repeat first | with_reducible exact .nil _ | with_reducible exact .here _ _ | with_reducible exact Take.self _ | with_reducible apply Take.cons | with_reducible apply Out.there | with_reducible apply Take.skip | with_reducible exact Take.pre _ _ | with_reducible apply Out.app) rfl ?_
          refine XL_det (.yes 54 rfl rfl rfl) (D_pure rfl) rfl ?_
          refine XL_det .no (D_pure rfl) rfl ?_
          refine XL_then ?_
          refine X_cond rfl (fun h5 => ?_) (fun h5 => ?_)
          · try simp only [decide_eq_true_eq, decide_eq_false_iff_not, Bool.not_eq_true', Bool.not_eq_false', beq_iff_eq, bne_iff_ne, beq_eq_false_iff_ne, bne_eq_false_iff_eq, Int.not_lt, Int.not_le, gt_iff_lt, ge_iff_le, ne_eq] at h5
            refine X_region ?_
            refine XL_det .no (D_pure rfl) rfl ?_
            refine XL_det .no (D_fld rfl fld_53_2 (o' := 2) rfl) rfl ?_
            refine XL_efd .no (F_stl rfl rfl rfl (by repeat first | with_reducible exact .here _ _ | with_reducible apply Out.there | with_reducible apply Out.app) tk_3 (by repeat first | exact .zero _ _ _ | apply SetL.succ)) ?_
            refine XL_nil ?_
            rw [show (blk b2 [.int .i64 (k : Int), .int .i64 (tookC (s.jf k)), .int .i64 (takeR (s.jf k).secs.l (s.jf k).done), .bool (decide (min ((s.jf k).done + 1) (s.jf k).cost ≥ (s.jf k).cost)), .int .i64 0, .bool false] 53 : Asrt B) = blk b2 [.int .i64 (k : Int), .int .i64 (tookC (s.jf k)), .int .i64 (gaveC (s.jf k)), .bool (decide (min ((s.jf k).done + 1) (s.jf k).cost ≥ (s.jf k).cost)), .int .i64 0, .bool false] 53 from by rw [gave_t (by omega) h5]]
            refine joinQ_normal () ?_ ?_ ?_
            · trivial
            · refine ⟨?_, ?_, ?_, ?_, ?_, trivial⟩ <;> rfl
            · exact ⟨_, (by repeat first | with_reducible exact .nil _ | with_reducible exact .here _ _ | with_reducible exact Take.self _ | with_reducible apply Take.cons | with_reducible apply Out.there | with_reducible apply Take.skip | with_reducible exact Take.pre _ _ | with_reducible apply Out.app)⟩
          · try simp only [decide_eq_true_eq, decide_eq_false_iff_not, Bool.not_eq_true', Bool.not_eq_false', beq_iff_eq, bne_iff_ne, beq_eq_false_iff_ne, bne_eq_false_iff_eq, Int.not_lt, Int.not_le, gt_iff_lt, ge_iff_le, ne_eq] at h5
            refine X_skip ?_
            rw [show (blk b2 [.int .i64 (k : Int), .int .i64 (tookC (s.jf k)), .int .i64 (-1), .bool (decide (min ((s.jf k).done + 1) (s.jf k).cost ≥ (s.jf k).cost)), .int .i64 0, .bool false] 53 : Asrt B) = blk b2 [.int .i64 (k : Int), .int .i64 (tookC (s.jf k)), .int .i64 (gaveC (s.jf k)), .bool (decide (min ((s.jf k).done + 1) (s.jf k).cost ≥ (s.jf k).cost)), .int .i64 0, .bool false] 53 from by rw [show gaveC (s.jf k) = -1 from (gave_f (fun g => absurd g.2 (Int.not_lt.2 h5))).symm]]
            refine joinQ_normal () ?_ ?_ ?_
            · trivial
            · refine ⟨?_, ?_, ?_, ?_, ?_, trivial⟩ <;> rfl
            · exact ⟨_, (by repeat first | with_reducible exact .nil _ | with_reducible exact .here _ _ | with_reducible exact Take.self _ | with_reducible apply Take.cons | with_reducible apply Out.there | with_reducible apply Take.skip | with_reducible exact Take.pre _ _ | with_reducible apply Out.app)⟩
        · try simp only [decide_eq_true_eq, decide_eq_false_iff_not, Bool.not_eq_true', Bool.not_eq_false', beq_iff_eq, bne_iff_ne, beq_eq_false_iff_ne, bne_eq_false_iff_eq, Int.not_lt, Int.not_le, gt_iff_lt, ge_iff_le, ne_eq] at h4
          refine XL_skip 54 rfl rfl rfl rfl rfl ?_
          refine XL_skip 54 rfl rfl rfl rfl rfl ?_
          refine XL_skip 54 rfl rfl rfl rfl rfl ?_
          refine XL_skip 54 rfl rfl rfl rfl rfl ?_
          refine XL_skip 54 rfl rfl rfl rfl rfl ?_
          refine XL_det .no (D_pure rfl) rfl ?_
          refine XL_then ?_
          refine X_cond_f rfl rfl ?_
          refine X_skip ?_
          rw [show (blk b2 [.int .i64 (k : Int), .int .i64 (tookC (s.jf k)), .int .i64 (-1), .bool (decide (min ((s.jf k).done + 1) (s.jf k).cost ≥ (s.jf k).cost)), .int .i64 0, .bool false] 53 : Asrt B) = blk b2 [.int .i64 (k : Int), .int .i64 (tookC (s.jf k)), .int .i64 (gaveC (s.jf k)), .bool (decide (min ((s.jf k).done + 1) (s.jf k).cost ≥ (s.jf k).cost)), .int .i64 0, .bool false] 53 from by rw [show gaveC (s.jf k) = -1 from (gave_f (by omega)).symm]]
          refine joinQ_normal () ?_ ?_ ?_
          · trivial
          · refine ⟨?_, ?_, ?_, ?_, ?_, trivial⟩ <;> rfl
          · exact ⟨_, (by repeat first | with_reducible exact .nil _ | with_reducible exact .here _ _ | with_reducible exact Take.self _ | with_reducible apply Take.cons | with_reducible apply Out.there | with_reducible apply Take.skip | with_reducible exact Take.pre _ _ | with_reducible apply Out.app)⟩
      · rintro _ _
        refine X_seq ?_
        refine X_seq ?_
        refine X_region ?_
        refine XL_det .no (D_fld rfl fld_53_3 (o' := 3) rfl) rfl ?_
        refine XL_det .no (D_ldo rfl (by repeat first | with_reducible exact .here _ _ | with_reducible apply Out.there | with_reducible apply Out.app) tk_4 (by rfl)) rfl ?_
        refine XL_det .no (D_pure rfl) rfl ?_
        refine XL_then ?_
        refine X_cond rfl (fun h6 => ?_) (fun h6 => ?_)
        · try simp only [decide_eq_true_eq, decide_eq_false_iff_not, Bool.not_eq_true', Bool.not_eq_false', beq_iff_eq, bne_iff_ne, beq_eq_false_iff_ne, bne_eq_false_iff_eq, Int.not_lt, Int.not_le, gt_iff_lt, ge_iff_le, ne_eq] at h6
          have hov : decide (min ((s.jf k).done + 1) (s.jf k).cost ≥ (s.jf k).cost) = false := by rw [decide_eq_false_iff_not]; omega
          rw [hov]
          refine X_seq ?_
          refine X_region ?_
          refine XL_det .no (D_pure rfl) rfl ?_
          refine XL_det .no (D_pure rfl) rfl ?_
          refine XL_det .no (D_nilck rfl) rfl ?_
          refine XL_det .no (D_ldso (vs := encJ (stepJ (s.jf k))) rfl (by repeat first | with_reducible exact .here _ _ | with_reducible apply Out.there | with_reducible apply Out.app) tk_45 (by rw [cr_len]; exact Nat.ble_eq_true_of_le (by omega)) ((cr_job ⟨upd s.jf k (stepJ (s.jf k)), s.live, s.r, s.tab, s.now + 1⟩ hk16).trans (by show encJ (upd s.jf k (stepJ (s.jf k)) k) = _; rw [upd_same]))) rfl ?_
          refine XL_call .no en_48 rfl (slay c ⟨upd s.jf k (stepJ (s.jf k)), s.live, s.r, s.tab, s.now + 1⟩ (Kj := many 16 (rowS s.jf)) (stepJ (s.jf k)) (Rd_many hk16 (Rd_own (hc.own k hk16) rfl)) hc.tab hc.r (by show 0 ≤ (s.jf k).id ∧ (s.jf k).id < 16; omega) hK) (by repeat first | with_reducible exact .nil _ | with_reducible exact .here _ _ | with_reducible exact Take.self _ | with_reducible apply Take.cons | with_reducible apply Out.there | with_reducible apply Take.skip | with_reducible exact Take.pre _ _ | with_reducible apply Out.app) rfl ?_
          rintro _ _ ⟨rfl, rfl⟩
          simp only [List.cons_append, List.nil_append]
          rw [← rowS_done s.jf k (min ((s.jf k).done + 1) (s.jf k).cost)]
          refine XL_then ?_
          refine X_seq ?_
          refine X_region ?_
          refine XL_det .no (D_ldso (vs := encR ⟨(k : Int), tookC (s.jf k), gaveC (s.jf k), false, 0, false⟩) rfl (by repeat first | with_reducible exact .here _ _ | with_reducible apply Out.there | with_reducible apply Out.app) tk_53 rfl (by rfl)) rfl ?_
          refine XL_efd .no (F_stw rfl rfl rfl (by repeat first | with_reducible exact .here _ _ | with_reducible apply Out.there | with_reducible apply Out.app) tk_53 rfl rfl) ?_
          refine XL_then ?_
          refine X_ret ?_
          refine thenX_ret ?_
          refine ret_ok (.nil _) (res_cell rfl rfl (by repeat first | with_reducible exact .here _ _ | with_reducible apply Out.there | with_reducible apply Out.app) tk_53 (by rfl)) ?_
          exact ⟨_, ⟨by rw [tick_on h1 hk (by omega)], by rw [tick_on h1 hk (by omega)]⟩, _, (by repeat first | with_reducible exact .nil _ | with_reducible exact .here _ _ | exact .here _ _ | with_reducible exact Take.self _ | with_reducible apply Take.cons | with_reducible apply Out.there | with_reducible apply Take.skip | with_reducible exact Take.pre _ _ | with_reducible apply Out.app)⟩
        · try simp only [decide_eq_true_eq, decide_eq_false_iff_not, Bool.not_eq_true', Bool.not_eq_false', beq_iff_eq, bne_iff_ne, beq_eq_false_iff_ne, bne_eq_false_iff_eq, Int.not_lt, Int.not_le, gt_iff_lt, ge_iff_le, ne_eq] at h6
          have hov : decide (min ((s.jf k).done + 1) (s.jf k).cost ≥ (s.jf k).cost) = true := by rw [decide_eq_true_eq]; omega
          rw [hov]
          refine X_skip ?_
          refine thenX_normal ?_
          refine X_seqj (α := Unit) (fun _ => True) (fun _ => [(0, .pointer (some ⟨c, 0, none⟩)), (2, .pointer (some ⟨b1, 0, none⟩)), (3, .int .i64 (k : Int)), (5, .pointer (some ⟨c, 0 + k * 6, none⟩)), (6, .pointer (some ⟨b2, 0, none⟩))]) (fun _ => [blk b1 [.int .i64 0, .int .i64 0, .int .i64 0, .bool false, .int .i64 0, .bool false] 53, blk b2 [.int .i64 (k : Int), .int .i64 (tookC (s.jf k)), .int .i64 (gaveC (s.jf k)), .bool true, .int .i64 (s.now + 1 - (s.jf k).rel), .bool (decide (s.now + 1 > (s.jf k).dl))] 53, blk c (crC (⟨upd s.jf k (stepJ (s.jf k)), s.live, s.r, s.tab, s.now + 1⟩ : Cr)) 110, many 16 (rowS s.jf), K]) ?_ ?_
          · skip
            refine X_drawk [blk c (crC (⟨upd s.jf k (stepJ (s.jf k)), s.live, s.r, s.tab, s.now + 1⟩ : Cr)) 110, many 16 (rowS s.jf)] mixed (by repeat first | with_reducible exact .nil _ | with_reducible exact .here _ _ | with_reducible exact Take.self _ | with_reducible apply Take.cons | with_reducible apply Out.there | with_reducible apply Take.skip | with_reducible exact Take.pre _ _ | with_reducible apply Out.app) ?_
            refine XA_detp 0 rfl (by kernel_rfl) (by kernel_rfl) (by kernel_rfl) (fun _ _ _ _ h => h) .no (D_pureP rfl) rfl ?_
            refine XA_detp 1 rfl (by kernel_rfl) (by kernel_rfl) (by kernel_rfl) (fun _ _ _ _ h => h) .no (D_nilckP rfl) rfl ?_
            refine XA_detp 2 rfl (by kernel_rfl) (by kernel_rfl) (by kernel_rfl) (fun _ _ _ _ h => h) .no (D_fldP rfl fld_110_4 (o' := 139) rfl) rfl ?_
            refine XA_det 3 rfl (by kernel_rfl) (by kernel_rfl) (by kernel_rfl) (by kernel_rfl) (fun _ _ _ _ h => h) .no (D_ldo (v := .int .i64 (s.now + 1)) rfl (by repeat first | with_reducible exact .here _ _ | with_reducible apply Out.there | with_reducible apply Out.app) tk_3 (cr_now ⟨upd s.jf k (stepJ (s.jf k)), s.live, s.r, s.tab, s.now + 1⟩)) rfl ?_
            refine XA_detp 4 rfl (by kernel_rfl) (by kernel_rfl) (by kernel_rfl) (fun _ _ _ _ h => h) .no (D_pureP rfl) rfl ?_
            refine XA_detp 5 rfl (by kernel_rfl) (by kernel_rfl) (by kernel_rfl) (fun _ _ _ _ h => h) .no (D_nilckP rfl) rfl ?_
            refine XA_detp 6 rfl (by kernel_rfl) (by kernel_rfl) (by kernel_rfl) (fun _ _ _ _ h => h) .no (D_fldP rfl fld_45_1 (o' := 0 + k * 6 + 1) rfl) rfl ?_
            refine XA_det 7 rfl (by kernel_rfl) (by kernel_rfl) (by kernel_rfl) (by kernel_rfl) (fun _ _ _ _ h => h) .no (D_ldo rfl (by repeat first | with_reducible exact .here _ _ | with_reducible apply Out.there | with_reducible apply Out.app) tk_3 ((cr_fld ⟨upd s.jf k (stepJ (s.jf k)), s.live, s.r, s.tab, s.now + 1⟩ hk16 (k := 1) (v := .int .i64 (s.jf k).rel) (by show (encJ (upd s.jf k (stepJ (s.jf k)) k))[1]? = _; rw [upd_same]; rfl)))) rfl ?_
            refine XA_det 8 rfl (by kernel_rfl) (by kernel_rfl) (by kernel_rfl) (by kernel_rfl) (fun _ _ _ _ h => h) .no (D_sub rfl rfl (by omega) (by omega)) rfl ?_
            refine XA_detp 9 rfl (by kernel_rfl) (by kernel_rfl) (by kernel_rfl) (fun _ _ _ _ h => h) .no (D_pureP rfl) rfl ?_
            refine XA_detp 10 rfl (by kernel_rfl) (by kernel_rfl) (by kernel_rfl) (fun _ _ _ _ h => h) .no (D_nilckP rfl) rfl ?_
            refine XA_det 11 rfl (by kernel_rfl) (by kernel_rfl) (by kernel_rfl) (by kernel_rfl) (fun _ _ _ _ h => h) .no (D_ldso (vs := encJ (stepJ (s.jf k))) rfl (by repeat first | with_reducible exact .here _ _ | with_reducible apply Out.there | with_reducible apply Out.app) tk_45 (by rw [cr_len]; exact Nat.ble_eq_true_of_le (by omega)) ((cr_job ⟨upd s.jf k (stepJ (s.jf k)), s.live, s.r, s.tab, s.now + 1⟩ hk16).trans (by show encJ (upd s.jf k (stepJ (s.jf k)) k) = _; rw [upd_same]))) rfl ?_
            refine XA_detp 12 rfl (by kernel_rfl) (by kernel_rfl) (by kernel_rfl) (fun _ _ _ _ h => h) .no (D_pureP rfl) rfl ?_
            refine XA_detp 13 rfl (by kernel_rfl) (by kernel_rfl) (by kernel_rfl) (fun _ _ _ _ h => h) .no (D_nilckP rfl) rfl ?_
            refine XA_detp 14 rfl (by kernel_rfl) (by kernel_rfl) (by kernel_rfl) (fun _ _ _ _ h => h) .no (D_fldP rfl fld_110_4 (o' := 139) rfl) rfl ?_
            refine XA_det 15 rfl (by kernel_rfl) (by kernel_rfl) (by kernel_rfl) (by kernel_rfl) (fun _ _ _ _ h => h) .no (D_ldo (v := .int .i64 (s.now + 1)) rfl (by repeat first | with_reducible exact .here _ _ | with_reducible apply Out.there | with_reducible apply Out.app) tk_3 (cr_now ⟨upd s.jf k (stepJ (s.jf k)), s.live, s.r, s.tab, s.now + 1⟩)) rfl ?_
            refine XA_detp 17 rfl (by kernel_rfl) (by kernel_rfl) (by kernel_rfl) (fun _ _ _ _ h => h) .no (D_fldP rfl fld_53_4 (o' := 4) rfl) rfl ?_
            refine XA_one 16 (by kernel_rfl) ?_
            refine XO_callv rfl .no en_57 rfl (jlate _ _ (s.jf k).dl _ _ _ (s.now + 1)) rfl ?_
            refine XA_one 18 (by kernel_rfl) ?_
            refine XO_efk rfl .no (by repeat first | with_reducible exact .nil _ | with_reducible apply App.cons) (F_stl rfl rfl rfl (by repeat first | with_reducible exact .here _ _ | with_reducible apply Out.there | with_reducible apply Out.app) tk_3 (by repeat first | exact .zero _ _ _ | apply SetL.succ)) (by repeat first | with_reducible exact .nil _ | with_reducible exact .here _ _ | with_reducible exact Take.self _ | with_reducible apply Take.cons | with_reducible apply Out.there | with_reducible apply Take.skip | with_reducible exact Take.pre _ _ | with_reducible apply Out.app) ?_
            refine XA_detp 19 rfl (by kernel_rfl) (by kernel_rfl) (by kernel_rfl) (fun _ _ _ _ h => h) .no (D_fldP rfl fld_53_5 (o' := 5) rfl) rfl ?_
            refine XA_one 20 (by kernel_rfl) ?_
            refine XO_efk rfl .no (by repeat first | with_reducible exact .nil _ | with_reducible apply App.cons) (F_stl rfl rfl rfl (by repeat first | with_reducible exact .here _ _ | with_reducible apply Out.there | with_reducible apply Out.app) tk_4 (by repeat first | exact .zero _ _ _ | apply SetL.succ)) (by repeat first | with_reducible exact .nil _ | with_reducible exact .here _ _ | with_reducible exact Take.self _ | with_reducible apply Take.cons | with_reducible apply Out.there | with_reducible apply Take.skip | with_reducible exact Take.pre _ _ | with_reducible apply Out.app) ?_
            refine XA_done (by kernel_rfl) ?_
            try simp only [List.cons_append, List.nil_append, List.append_nil]
            refine joinQ_normal () ?_ ?_ ?_
            · trivial
            · refine ⟨?_, ?_, ?_, ?_, ?_, trivial⟩ <;> rfl
            · exact ⟨_, (by repeat first | with_reducible exact .nil _ | with_reducible exact .here _ _ | with_reducible exact Take.self _ | with_reducible apply Take.cons | with_reducible apply Out.there | with_reducible apply Take.skip | with_reducible exact Take.pre _ _ | with_reducible apply Out.app)⟩
          · rintro _ _
            refine X_seq ?_
            refine X_region ?_
            refine XL_det .no (D_pure rfl) rfl ?_
            refine XL_det .no (D_pure rfl) rfl ?_
            refine XL_det .no (D_nilck rfl) rfl ?_
            refine XL_det .no (D_fld rfl fld_110_1 (o' := 96) rfl) rfl ?_
            refine XL_det .no (D_ldo (v := .int .u32 s.live.toNat) rfl (by repeat first | with_reducible exact .here _ _ | with_reducible apply Out.there | with_reducible apply Out.app) tk_37 (cr_live ⟨upd s.jf k (stepJ (s.jf k)), s.live, s.r, s.tab, s.now + 1⟩)) rfl ?_
            refine XL_det .no (D_pure rfl) rfl ?_
            refine XL_callv .no en_58 rfl (mWithout s.live k) rfl ?_
            refine XL_det .no (D_nilck rfl) rfl ?_
            refine XL_det .no (D_fld rfl fld_110_1 (o' := 96) rfl) rfl ?_
            refine XL_efd .no (F_st (k := 96) (cs' := crC ⟨upd s.jf k (stepJ (s.jf k)), s.live &&& ~~~(bitv (k : Int)), s.r, s.tab, s.now + 1⟩) rfl rfl rfl (by repeat first | with_reducible exact .here _ _ | with_reducible apply Out.there | with_reducible apply Out.app) tk_37 (cr_lt _ (by omega)) (cr_setlive ⟨upd s.jf k (stepJ (s.jf k)), s.live, s.r, s.tab, s.now + 1⟩ _)) ?_
            refine XL_then ?_
            refine X_seq ?_
            refine X_region ?_
            refine XL_det .no (D_pure rfl) rfl ?_
            refine XL_det .no (D_nilck rfl) rfl ?_
            refine XL_det .no (D_fld rfl fld_110_2 (o' := 97) rfl) rfl ?_
            refine XL_det .no (D_pure rfl) rfl ?_
            refine XL_call .no en_59 rfl (rdrop c 110 (preC ⟨upd s.jf k (stepJ (s.jf k)), s.live &&& ~~~(bitv (k : Int)), s.r, s.tab, s.now + 1⟩) (postC ⟨upd s.jf k (stepJ (s.jf k)), s.live &&& ~~~(bitv (k : Int)), s.r, s.tab, s.now + 1⟩) (pre_len _) s.r hc.r (k : Int) hK) (by repeat first | with_reducible exact .nil _ | with_reducible exact .here _ _ | with_reducible exact Take.self _ | with_reducible apply Take.cons | with_reducible apply Out.there | with_reducible apply Take.skip | with_reducible exact Take.pre _ _ | with_reducible apply Out.app) rfl ?_
            rintro _ _ ⟨rfl, rfl⟩
            simp only [List.cons_append, List.nil_append]
            rw [← rowS_done s.jf k (min ((s.jf k).done + 1) (s.jf k).cost)]
            refine XL_then ?_
            refine X_seq ?_
            refine X_region ?_
            refine XL_det .no (D_ldso (vs := encR ⟨(k : Int), tookC (s.jf k), gaveC (s.jf k), true, s.now + 1 - (s.jf k).rel, decide (s.now + 1 > (s.jf k).dl)⟩) rfl (by repeat first | with_reducible exact .here _ _ | with_reducible apply Out.there | with_reducible apply Out.app) tk_53 rfl (by rfl)) rfl ?_
            refine XL_efd .no (F_stw rfl rfl rfl (by repeat first | with_reducible exact .here _ _ | with_reducible apply Out.there | with_reducible apply Out.app) tk_53 rfl rfl) ?_
            refine XL_then ?_
            refine X_ret ?_
            refine ret_ok (.nil _) (res_cell rfl rfl (by repeat first | with_reducible exact .here _ _ | with_reducible apply Out.there | with_reducible apply Out.app) tk_53 (by rfl)) ?_
            exact ⟨_, ⟨by rw [tick_over h1 hk (by omega)], by rw [tick_over h1 hk (by omega)]⟩, _, (by repeat first | with_reducible exact .nil _ | with_reducible exact .here _ _ | exact .here _ _ | with_reducible exact Take.self _ | with_reducible apply Take.cons | with_reducible apply Out.there | with_reducible apply Take.skip | with_reducible exact Take.pre _ _ | with_reducible apply Out.app)⟩

end Go.Proofs.YtkkdchgnknpceaaDoor
end

section
/- Jobs by fixed priorities: what a core keeps to. Plain. -/
namespace Go.Proofs.YtkkdchgnknpceaaDoor
open Go Go.Sl
set_option linter.unusedVariables false
set_option linter.unusedSimpArgs false
def ltP (p q : Int × Int) : Prop := p.2 < q.2 ∨ (p.2 = q.2 ∧ p.1 < q.1)
theorem pairN_sorted (r : Nat → Int) (l : Nat) : ∀ n, (pairN r l n).Pairwise ltP
  | 0 => List.Pairwise.nil
  | n + 1 => by
    rw [pairN_s]
    refine List.pairwise_append.2 ⟨pairN_sorted r l n, by split <;> simp, fun a ha b hb => ?_⟩
    obtain ⟨k, h1, _, rfl⟩ := mem_pairN.1 ha
    split at hb
    · simp at hb; subst hb; exact .inr ⟨rfl, show (k : Int) < n by omega⟩
    · cases hb
theorem pairs_sorted (r : Nat → Int) : ∀ m, (pairs r m).Pairwise ltP
  | 0 => List.Pairwise.nil
  | m + 1 => by
    rw [pairs_s]
    refine List.pairwise_append.2 ⟨pairs_sorted r m, pairN_sorted r m 32, fun a ha b hb => .inl ?_⟩
    obtain ⟨k, _, _, rfl⟩ := mem_pairN.1 hb
    unfold pairs at ha
    simp only [List.mem_flatMap, List.mem_range, mem_pairN] at ha
    obtain ⟨l, h1, k2, _, _, rfl⟩ := ha
    show (l : Int) < m; omega
theorem first_head {r : Nat → Int} {p : Int × Int} {l : List (Int × Int)} (h : goes r = p :: l) : firstR r = (p.1, true) := by unfold firstR; rw [h]
/-! ### Levels in the queue -/
theorem put_upd {r : Nat → Int} {k : Nat} {v : Int} (hk : k < 32) (h : 0 ≤ v ∧ v < 32) : putR r (k : Int) v = upd r k (v + 1) := by
  unfold putR putB
  rw [if_pos (decide_eq_true ⟨by omega, by omega, h.1, h.2⟩), Int.toNat_natCast]
theorem drop_upd {r : Nat → Int} {k : Nat} (hk : k < 32) : dropR r (k : Int) = upd r k 0 := drop_in hk
abbrev Cr.L (s : Cr) (k : Nat) : Prop := hasB s.live (k : Int) = true
abbrev Cr.H (s : Cr) (k : Nat) : Int := hold (s.jf k).secs.l (s.jf k).done
abbrev Cr.lv (s : Cr) (k : Nat) : Int := (s.jf k).lev s.tab
/-- As what it goes. -/
abbrev Cr.eff (s : Cr) (k : Nat) : Int := levelV s.tab (k : Int) (s.H k)
theorem lv_in {s : Cr} (h : COk s) {k : Nat} (hk : s.L k) : 0 ≤ s.lv k ∧ s.lv k ≤ 31 := by
  obtain ⟨h1, h2, _⟩ := h.live k hk
  have := levC_in (id := (s.jf k).id) (d := (s.jf k).done) (l := (s.jf k).secs.l) h.tab (by omega)
  show 0 ≤ levC _ _ _ _ ∧ levC _ _ _ _ ≤ 31
  omega
theorem lv_free {s : Cr} (h : COk s) {k : Nat} (hk : s.L k) (hh : s.H k < 0) : s.lv k = 2 * k + 1 := by
  show levC _ _ _ _ = _
  unfold levC; rw [if_pos hh, (h.live k hk).2.1]
theorem lv_held {s : Cr} (h : COk s) {k : Nat} (hk : s.L k) (hh : 0 ≤ s.H k) : s.lv k = 2 * s.eff k := by
  show levC _ _ _ _ = _
  unfold levC; rw [if_neg (by show ¬ s.H k < 0; omega), (h.live k hk).2.1]
theorem eff_le {s : Cr} (h : COk s) {k : Nat} (hk : s.L k) : 0 ≤ s.eff k ∧ s.eff k ≤ k := by
  have h1 := (h.live k hk).1
  exact lev_in h.tab (by omega)
theorem lv_le {s : Cr} (h : COk s) {k : Nat} (hk : s.L k) : s.lv k ≤ 2 * k + 1 := by
  by_cases hh : s.H k < 0
  · rw [lv_free h hk hh]; omega
  · rw [lv_held h hk (by omega)]; have := eff_le h hk; omega
/-- What goes first. -/
theorem first_spec {s : Cr} (h : COk s) : ((firstR s.r).2 = true ∧ ∃ k : Nat, k < 16 ∧ s.L k ∧ (firstR s.r).1 = k ∧ ∀ m, s.L m → s.lv k < s.lv m ∨ (s.lv k = s.lv m ∧ k ≤ m)) ∨ (firstR s.r = (0, false) ∧ ∀ m, ¬ s.L m) := by
  have mem : ∀ m, s.L m → ((m : Int), s.lv m) ∈ goes s.r := fun m hm => by
    have h1 := (h.live m hm).1
    have h2 := h.rl m (by omega)
    rw [if_pos hm] at h2
    have h3 : 0 ≤ (s.jf m).lev s.tab ∧ _ := lv_in h hm
    exact (mem_goes h.r).2 ⟨m, by omega, by rw [h2]; omega, by rw [h2]; simp⟩
  cases hg : goes s.r with
  | nil =>
    right
    refine ⟨by unfold firstR; rw [hg], fun m hm => ?_⟩
    have := mem m hm; rw [hg] at this; cases this
  | cons p l =>
    left
    have hm : p ∈ goes s.r := by rw [hg]; exact List.mem_cons_self ..
    obtain ⟨k, h1, h2, rfl⟩ := (mem_goes h.r).1 hm
    have h3 := h.rl k h1
    have hl : s.L k := by
      cases hb : hasB s.live (k : Int) with
      | true => exact hb
      | false => rw [hb] at h3; exact absurd h3 h2
    rw [if_pos hl] at h3
    have hk := (h.live k hl).1
    refine ⟨by rw [first_head hg], k, hk, hl, by rw [first_head hg], fun m hm => ?_⟩
    have hs : (goes s.r).Pairwise ltP := pairs_sorted s.r 32
    have hmm := mem m hm
    rw [hg] at hs hmm
    rcases List.mem_cons.1 hmm with he | he
    · have : m = k := by have := congrArg Prod.fst he; simp at this; omega
      subst this; right; exact ⟨rfl, Nat.le_refl _⟩
    · have := (List.pairwise_cons.1 hs).1 _ he
      rw [h3] at this
      rcases this with h' | ⟨h', h''⟩
      · left; simpa using h'
      · right; simp at h' h''; exact ⟨by simpa using h', by omega⟩
/-! ### A core stays what it is -/
theorem live_with {v : BitVec 32} {k m : Nat} (hk : k < 16) (hm : m < 32) : hasB (v ||| bitv (k : Int)) (m : Int) = (hasB v (m : Int) || decide (m = k)) := by
  rw [hasB_or, hasB_bitv]; refine congrArg _ (decide_eq_decide.2 (by omega))
theorem live_without {v : BitVec 32} {k m : Nat} (hk : k < 16) (hm : m < 32) : hasB (v &&& ~~~(bitv (k : Int))) (m : Int) = (hasB v (m : Int) && !decide (m = k)) := by
  rw [hasB_andnot, hasB_bitv]; refine congrArg (fun b => _ && !b) (decide_eq_decide.2 (by omega))
theorem hasB_lt {v : BitVec 32} {m : Nat} (h : hasB v (m : Int) = true) : m < 32 := by
  have := h; simp [hasB] at this; omega
/-- The jobs' part of COk. -/
def JBnd (j : JC) (k : Nat) : Prop := k < 16 ∧ j.id = k ∧ 0 ≤ j.done ∧ j.done ≤ 100000000 ∧ 0 ≤ j.cost ∧ j.cost ≤ 100000000 ∧ -1000000000 ≤ j.rel ∧ j.rel ≤ 1000000000
theorem step_bnd {j : JC} {k : Nat} (h : JBnd j k) : JBnd (stepJ j) k := by
  obtain ⟨h1, h2, h3, h4, h5, h6, h7⟩ := h
  refine ⟨h1, h2, ?_, ?_, h5, h6, h7⟩
  · show 0 ≤ min (j.done + 1) j.cost; omega
  · show min (j.done + 1) j.cost ≤ _; omega
theorem tick_ok {s : Cr} (h : COk s) (hn : s.now < 1000000000) : COk (tickC s).1 := by
  have hnow := h.now
  rcases first_spec h with ⟨h1, k, hk, hl, hf, _⟩ | ⟨h1, _⟩
  · have own' : ∀ i, i < 16 → ((upd s.jf k (stepJ (s.jf k))) i).secs.Own := fun i hi => by
      by_cases e : i = k
      · subst e; rw [upd_same]; exact h.own i hi
      · rw [upd_ne _ _ e]; exact h.own i hi
    have bnd : ∀ i : Nat, s.L i → JBnd (upd s.jf k (stepJ (s.jf k)) i) i := fun i hi => by
      by_cases e : i = k
      · subst e; rw [upd_same]; exact step_bnd (h.live i hi)
      · rw [upd_ne _ _ e]; exact h.live i hi
    have hid := (h.live k hl).2.1
    by_cases ho : min ((s.jf k).done + 1) (s.jf k).cost ≥ (s.jf k).cost
    · rw [tick_over h1 hf ho]
      refine ⟨dropR_ok h.r, own', h.tab, fun i hi => ?_, ⟨by show 0 ≤ s.now + 1; omega, by show s.now + 1 ≤ _; omega⟩, fun n hn => ?_⟩
      · have h32 := hasB_lt hi
        rw [live_without hk h32] at hi
        simp only [Bool.and_eq_true] at hi
        exact bnd i hi.1
      · show dropR s.r (k : Int) n = if hasB (s.live &&& ~~~(bitv (k : Int))) (n : Int) = true then (upd s.jf k (stepJ (s.jf k)) n).lev s.tab + 1 else 0
        rw [drop_upd (by omega), live_without hk hn]
        by_cases e : n = k
        · subst e; rw [upd_same]; simp
        · rw [upd_ne _ _ e, h.rl n hn, upd_ne _ _ e]; simp [e]
    · rw [tick_on h1 hf ho]
      have hlv := levC_in (id := (s.jf k).id) (d := (stepJ (s.jf k)).done) (l := (s.jf k).secs.l) h.tab (by omega)
      refine ⟨putR_ok h.r, own', h.tab, fun i hi => bnd i hi, ⟨by show 0 ≤ s.now + 1; omega, by show s.now + 1 ≤ _; omega⟩, fun n hn => ?_⟩
      show putR s.r (s.jf k).id (levC s.tab (s.jf k).id (stepJ (s.jf k)).done (s.jf k).secs.l) n = if hasB s.live (n : Int) = true then (upd s.jf k (stepJ (s.jf k)) n).lev s.tab + 1 else 0
      rw [hid] at hlv ⊢
      rw [put_upd (by omega) (by omega)]
      by_cases e : n = k
      · subst e; rw [upd_same, upd_same, if_pos hl]
        show _ = levC s.tab (s.jf n).id _ _ + 1
        rw [hid]
      · rw [upd_ne _ _ e, upd_ne _ _ e, h.rl n hn]
  · rw [tick_no (by rw [h1])]
    exact ⟨h.r, h.own, h.tab, h.live, ⟨by show 0 ≤ s.now + 1; omega, by show s.now + 1 ≤ _; omega⟩, h.rl⟩
theorem rel_ok {s : Cr} {j : JC} {a : Arr Sec} (h : COk s) (ha : a.Own) (hl : a.l = j.secs.l) (hb : ∀ k : Nat, j.id = k → k < 16 → JBnd j k) : COk (relC s j a) := by
  by_cases he : relErr s j = 0
  · rw [relC_0 he]
    have hid : ¬ (j.id < 0 ∨ j.id ≥ 16 ∨ j.done ≥ j.cost) := fun c => by rw [rel_100 c] at he; cases he
    obtain ⟨k, hk⟩ := Int.eq_ofNat_of_zero_le (show 0 ≤ j.id by omega)
    have hk16 : k < 16 := by omega
    have hjb := hb k hk hk16
    have hno : hasB s.live j.id = false := by
      cases hc : hasB s.live j.id with
      | false => rfl
      | true => rw [rel_242 hid hc] at he; cases he
    clear hb he hid
    obtain ⟨id, rel, dl, cost, done, secs⟩ := j
    have hk' : id = k := hk
    clear hk
    subst hk'
    have hno : hasB s.live (k : Int) = false := hno
    show COk ⟨upd s.jf (k : Int).toNat ⟨k, rel, dl, cost, done, a⟩, s.live ||| bitv k, putR s.r k (levC s.tab k done a.l), s.tab, s.now⟩
    rw [Int.toNat_natCast]
    have hlv := levC_in (id := (k : Int)) (d := done) (l := a.l) h.tab (by omega)
    refine ⟨putR_ok h.r, fun i hi => ?_, h.tab, fun i hi => ?_, h.now, fun n hn => ?_⟩
    · show (upd s.jf k ⟨k, rel, dl, cost, done, a⟩ i).secs.Own
      by_cases e : i = k
      · subst e; rw [upd_same]; exact ha
      · rw [upd_ne _ _ e]; exact h.own i hi
    · show JBnd (upd s.jf k ⟨k, rel, dl, cost, done, a⟩ i) i
      by_cases e : i = k
      · subst e; rw [upd_same]; exact hjb
      · rw [upd_ne _ _ e]
        have h32 := hasB_lt hi
        have hi : hasB (s.live ||| bitv (k : Int)) (i : Int) = true := hi
        rw [live_with hk16 h32] at hi
        simp only [Bool.or_eq_true, decide_eq_true_eq] at hi
        rcases hi with hi | hi
        · exact h.live i hi
        · exact absurd hi e
    · show putR s.r (k : Int) (levC s.tab (k : Int) done a.l) n = if hasB (s.live ||| bitv (k : Int)) (n : Int) = true then (upd s.jf k ⟨k, rel, dl, cost, done, a⟩ n).lev s.tab + 1 else 0
      rw [put_upd (by omega) (by omega), live_with hk16 hn]
      by_cases e : n = k
      · subst e; rw [upd_same, upd_same, if_pos (by simp)]
      · rw [upd_ne _ _ e, upd_ne _ _ e, h.rl n hn]; simp [e]
  · rw [relC_e he]; exact h
theorem relay_get {t : Nat → Int} {jf : Nat → JC} (ht : ∀ r : Nat, r < 8 → 0 ≤ t r ∧ t r ≤ 16) : ∀ (l : List Int) (r : Nat → Int), (∀ i ∈ l, 0 ≤ i ∧ i < 16 ∧ (jf i.toNat).id = i) → ∀ n : Nat, relay t jf r l n = if (n : Int) ∈ l then (jf n).lev t + 1 else r n
  | [], r, _, n => by simp [relay]
  | a :: l, r, h, n => by
    obtain ⟨h0, h1, h2⟩ := h a (List.mem_cons_self ..)
    obtain ⟨k, rfl⟩ := Int.eq_ofNat_of_zero_le h0
    rw [Int.toNat_natCast] at h2
    have hlv := levC_in (id := (jf k).id) (d := (jf k).done) (l := (jf k).secs.l) ht (by omega)
    have e : relay t jf r ((k : Int) :: l) = relay t jf (upd r k ((jf k).lev t + 1)) l := by
      show relay t jf (putR r (jf k).id (levC t (jf k).id (jf k).done (jf k).secs.l)) l = _
      rw [h2] at hlv
      show relay t jf (putR r (jf k).id (levC t (jf k).id (jf k).done (jf k).secs.l)) l = relay t jf (upd r k (levC t (jf k).id (jf k).done (jf k).secs.l + 1)) l
      rw [h2, put_upd (by omega) (by omega)]
    rw [e, relay_get ht l _ (fun i hi => h i (List.mem_cons_of_mem _ hi)) n]
    by_cases hm : (n : Int) ∈ l
    · rw [if_pos hm, if_pos (List.mem_cons_of_mem _ hm)]
    · rw [if_neg hm]
      by_cases en : n = k
      · subst en; rw [upd_same, if_pos (List.mem_cons_self ..)]
      · rw [upd_ne _ _ en, if_neg (fun c => by rcases List.mem_cons.1 c with h' | h'; omega; exact hm h')]
theorem ceil_ok {s : Cr} {t : Nat → Int} (h : COk s) (ht : ∀ r : Nat, r < 8 → 0 ≤ t r ∧ t r ≤ 16) : COk (ceilC s t) := by
  refine ⟨relay_ok h.r, h.own, ht, h.live, h.now, fun n hn => ?_⟩
  show relay t s.jf s.r (listI s.live) n = if hasB s.live (n : Int) = true then (s.jf n).lev t + 1 else 0
  rw [relay_get ht _ _ (fun i hi => by
    obtain ⟨g1, g2, g3⟩ := mem_listN.1 hi
    obtain ⟨k, rfl⟩ := Int.eq_ofNat_of_zero_le g1
    have := h.live k g3
    rw [Int.toNat_natCast]; exact ⟨g1, by omega, this.2.1⟩)]
  have hm : (n : Int) ∈ listI s.live ↔ hasB s.live (n : Int) = true := ⟨fun c => (mem_listN.1 c).2.2, fun c => mem_listN.2 ⟨by omega, by omega, c⟩⟩
  by_cases hl : hasB s.live (n : Int) = true
  · rw [if_pos hl, if_pos (hm.2 hl)]
  · rw [if_neg hl, if_neg (fun c => hl (hm.1 c)), h.rl n hn, if_neg hl]
theorem cr0_ok : COk cr0 := by
  refine ⟨fun n => by show (0 : Int) ≤ 0 ∧ (0 : Int) ≤ 32; omega, fun i _ => Arr.emp_own, fun r _ => by show (0 : Int) ≤ 16 ∧ (16 : Int) ≤ 16; omega, fun i hi => ?_, by show (0 : Int) ≤ 0 ∧ (0 : Int) ≤ 1000000000; omega, fun n hn => ?_⟩
  · have hi : hasB 0#32 (i : Int) = true := hi
    simp [hasB] at hi
  · show (0 : Int) = if hasB 0#32 (n : Int) = true then _ else 0
    rw [if_neg (by simp [hasB])]
end Go.Proofs.YtkkdchgnknpceaaDoor
end

section
/- Jobs by fixed priorities, where the ceilings are right: who goes, who holds, who waits. Plain. -/
namespace Go.Proofs.YtkkdchgnknpceaaDoor
open Go Go.Sl
set_option linter.unusedVariables false
set_option linter.unusedSimpArgs false
/-! ### Sections -/
theorem hold_at {l : List Sec} {d : Int} (h : 0 ≤ hold l d) : ∃ c, l.find? (holdsP d) = some c ∧ c ∈ l ∧ c.2.1 < d ∧ d < c.2.2 ∧ hold l d = c.1 := by
  obtain ⟨c, h1, h2, h3, h4⟩ := holds_some h
  exact ⟨c, h1, h2, h3, h4, by unfold hold; rw [h1]; rfl⟩
theorem hold_take {T : Nat → Int} {cost lo : Int} {l : List Sec} {d : Int} (ho : okL T cost lo l) (h : 0 ≤ hold l (d + 1)) : takeR l d = hold l (d + 1) := by
  obtain ⟨c, h1, h2, h3, h4, h5⟩ := hold_at h
  unfold takeR; rw [takes_of ho h2 (show c.2.1 ≤ d by omega) (by omega), h5]; rfl
theorem hold_stay {T : Nat → Int} {cost lo : Int} {l : List Sec} {d : Int} (ho : okL T cost lo l) (h : 0 ≤ hold l (d + 1)) (g : 0 ≤ hold l d) : l.find? (holdsP (d + 1)) = l.find? (holdsP d) := by
  obtain ⟨c, h1, h2, h3, h4, _⟩ := hold_at h
  obtain ⟨c', g1, g2, g3, g4, _⟩ := hold_at g
  have e1 := takes_of ho h2 (show c.2.1 ≤ d by omega) (by omega)
  have e2 := takes_of ho g2 (show c'.2.1 ≤ d by omega) (by omega)
  rw [e1] at e2; cases e2
  rw [h1, g1]
theorem hold_stay' {T : Nat → Int} {cost lo : Int} {l : List Sec} {d : Int} (ho : okL T cost lo l) (h : 0 ≤ hold l (d + 1)) (g : 0 ≤ hold l d) : hold l (d + 1) = hold l d := by
  unfold hold; rw [hold_stay ho h g]
theorem take_at {l : List Sec} {d : Int} (h : 0 ≤ takeR l d) : ∃ c ∈ l, hold l d ≤ hold l d ∧ takeR l d = c.1 := by
  unfold takeR at h ⊢
  cases hf : l.find? (takesP d) with
  | none => rw [hf] at h; simp [resOf] at h
  | some c => exact ⟨c, List.mem_of_find?_eq_some hf, Int.le_refl _, rfl⟩
theorem hold_0 {T : Nat → Int} {cost : Int} {l : List Sec} (ho : okL T cost 0 l) : hold l 0 = -1 := by
  unfold hold
  cases hf : l.find? (holdsP 0) with
  | none => rfl
  | some c =>
    have h1 := List.find?_some hf
    simp [holdsP] at h1
    have := (okL_lo ho c (List.mem_of_find?_eq_some hf)).1
    omega
/-- How long a job still holds what it holds. -/
def remL (l : List Sec) (d : Int) : Int := match l.find? (holdsP d) with
  | some c => c.2.2 - d
  | none => 0
theorem rem_pos {l : List Sec} {d : Int} (h : 0 ≤ hold l d) : 1 ≤ remL l d := by
  obtain ⟨c, h1, _, _, h4, _⟩ := hold_at h
  unfold remL; rw [h1]; show 1 ≤ c.2.2 - d; omega
theorem rem_step {T : Nat → Int} {cost lo : Int} {l : List Sec} {d : Int} (ho : okL T cost lo l) (h : 0 ≤ hold l (d + 1)) (g : 0 ≤ hold l d) : remL l (d + 1) = remL l d - 1 := by
  obtain ⟨c, g1, _⟩ := hold_at g
  unfold remL; rw [hold_stay ho h g, g1]; show c.2.2 - (d + 1) = c.2.2 - d - 1; omega
theorem rem_le {T : Nat → Int} {cost lo : Int} {l : List Sec} {d : Int} (ho : okL T cost lo l) (h : 0 ≤ hold l d) : ∃ j : Nat, j < 8 ∧ hold l d = j ∧ remL l d ≤ T (3 + j) - 1 ∧ 2 ≤ T (3 + j) := by
  obtain ⟨c, h1, h2, h3, h4, h5⟩ := hold_at h
  obtain ⟨_, _, _, j, hj, h8, hT⟩ := okL_lo ho c h2
  refine ⟨j, h8, by rw [h5, hj], ?_, by omega⟩
  unfold remL; rw [h1]; show c.2.2 - d ≤ _; omega
theorem take_le {T : Nat → Int} {cost lo : Int} {l : List Sec} {d : Int} (ho : okL T cost lo l) (h : 0 ≤ takeR l d) : ∃ j : Nat, j < 8 ∧ takeR l d = j ∧ 1 ≤ T (3 + j) := by
  obtain ⟨c, h2, _, h5⟩ := take_at h
  obtain ⟨_, g, _, j, hj, h8, hT⟩ := okL_lo ho c h2
  exact ⟨j, h8, by rw [h5, hj], by omega⟩
/-! ### A system: the jobs of allowed tasks, ceilings that are right for them -/
structure Sys (ts : List (Nat → Int)) (A : Nat → Prop) (s : Cr) : Prop where
  ok : COk s
  al : ∀ k, s.L k → A k ∧ k < ts.length
  job : ∀ k e, s.L k → ts[k]? = some e → okL e (s.jf k).cost 0 (s.jf k).secs.l ∧ (s.jf k).done < (s.jf k).cost ∧ (s.jf k).cost ≤ e 2 ∧ (s.jf k).dl = (s.jf k).rel + e 1 ∧ (s.jf k).rel ≤ s.now
  tab : ∀ k e, A k → ts[k]? = some e → ∀ r : Nat, r < 8 → 0 < e (3 + r) → s.tab r ≤ k
  apart : ∀ p q, s.L p → s.L q → p ≠ q → 0 ≤ s.H p → 0 ≤ s.H q → (p : Int) < s.eff q ∨ (q : Int) < s.eff p
theorem Sys.task {ts : List (Nat → Int)} {A : Nat → Prop} {s : Cr} (h : Sys ts A s) {k : Nat} (hk : s.L k) : ∃ e, ts[k]? = some e ∧ okL e (s.jf k).cost 0 (s.jf k).secs.l ∧ (s.jf k).done < (s.jf k).cost ∧ (s.jf k).cost ≤ e 2 ∧ (s.jf k).dl = (s.jf k).rel + e 1 ∧ (s.jf k).rel ≤ s.now := by
  have h1 := (h.al k hk).2
  have h2 : ts[k]? = some ts[k] := List.getElem?_eq_getElem h1
  exact ⟨_, h2, h.job k _ hk h2⟩
/-- What is held is ahead of who holds it. -/
theorem Sys.held {ts : List (Nat → Int)} {A : Nat → Prop} {s : Cr} (h : Sys ts A s) {k : Nat} (hk : s.L k) (hh : 0 ≤ s.H k) : ∃ (e : Nat → Int) (r : Nat), ts[k]? = some e ∧ r < 8 ∧ s.H k = r ∧ remL (s.jf k).secs.l (s.jf k).done ≤ e (3 + r) - 1 ∧ 2 ≤ e (3 + r) ∧ s.eff k = s.tab r ∧ s.tab r ≤ k := by
  obtain ⟨e, h1, h2, _⟩ := h.task hk
  obtain ⟨r, g1, g2, g3, g4⟩ := rem_le h2 hh
  have ht := h.tab k e (h.al k hk).1 h1 r g1 (by omega)
  refine ⟨e, r, h1, g1, g2, g3, g4, ?_, ht⟩
  show levelV s.tab k (s.H k) = _
  have g2 : s.H k = r := g2
  rw [g2]
  unfold levelV atV
  rw [if_neg (by omega), if_pos (by omega), Int.toNat_natCast]; omega
/-- Who goes: the job with the least level. -/
structure Goes (s : Cr) (k : Nat) : Prop where
  f1 : (firstR s.r).2 = true
  f2 : (firstR s.r).1 = k
  lt : k < 16
  l : s.L k
  le : ∀ m, s.L m → s.lv k < s.lv m ∨ (s.lv k = s.lv m ∧ k ≤ m)
theorem goes_or {s : Cr} (h : COk s) : (∃ k, Goes s k) ∨ (firstR s.r = (0, false) ∧ ∀ m, ¬ s.L m) := by
  rcases first_spec h with ⟨h1, k, h2, h3, h4, h5⟩ | h
  · exact .inl ⟨k, h1, h4, h2, h3, h5⟩
  · exact .inr h
theorem Goes.free {s : Cr} {k : Nat} (h : COk s) (g : Goes s k) (hh : s.H k < 0) {q : Nat} (hq : s.L q) : (0 ≤ s.H q → (k : Int) < s.eff q) ∧ k ≤ q := by
  have h1 := g.le q hq
  rw [lv_free h g.l hh] at h1
  refine ⟨fun hh' => ?_, ?_⟩
  · rw [lv_held h hq hh'] at h1; omega
  · have := lv_le h hq; omega
/-- Who goes ahead of a lesser one holds something with a ceiling that lets it. -/
theorem Goes.over {s : Cr} {k w : Nat} (h : COk s) (g : Goes s k) (hw : s.L w) (hkw : w < k) : 0 ≤ s.H k ∧ s.eff k ≤ w := by
  have h1 := g.le w hw
  have h2 := lv_le h hw
  by_cases hh : s.H k < 0
  · rw [lv_free h g.l hh] at h1; omega
  · rw [lv_held h g.l (by omega)] at h1; exact ⟨by omega, by omega⟩
theorem Sys.one {ts : List (Nat → Int)} {A : Nat → Prop} {s : Cr} (h : Sys ts A s) {w p q : Nat} (hp : s.L p) (hq : s.L q) (wp : w < p) (wq : w < q) (p1 : 0 ≤ s.H p) (q1 : 0 ≤ s.H q) (p2 : s.eff p ≤ w) (q2 : s.eff q ≤ w) : p = q := by
  by_cases e : p = q
  · exact e
  · rcases h.apart p q hp hq e p1 q1 with h' | h' <;> omega
/-! ### A tick -/
/-- The core behind a tick in which k runs. -/
structure Ticked (s s' : Cr) (k : Nat) : Prop where
  g : Goes s k
  jf : s'.jf = upd s.jf k { s.jf k with done := (s.jf k).done + 1 }
  tab : s'.tab = s.tab
  now : s'.now = s.now + 1
  live : ∀ m, s'.L m ↔ s.L m ∧ (m = k → (s.jf k).done + 1 < (s.jf k).cost)
theorem Ticked.jne {s s' : Cr} {k m : Nat} (t : Ticked s s' k) (h : m ≠ k) : s'.jf m = s.jf m := by rw [t.jf, upd_ne _ _ h]
theorem Ticked.jk {s s' : Cr} {k : Nat} (t : Ticked s s' k) : s'.jf k = { s.jf k with done := (s.jf k).done + 1 } := by rw [t.jf, upd_same]
theorem Ticked.hne {s s' : Cr} {k m : Nat} (t : Ticked s s' k) (h : m ≠ k) : s'.H m = s.H m ∧ s'.eff m = s.eff m := by
  have e : s'.H m = s.H m := by show hold _ _ = hold _ _; rw [t.jne h]
  exact ⟨e, by show levelV _ _ _ = levelV _ _ _; rw [t.tab, e]⟩
theorem Ticked.hk {s s' : Cr} {k : Nat} (t : Ticked s s' k) : s'.H k = hold (s.jf k).secs.l ((s.jf k).done + 1) := by
  show hold (s'.jf k).secs.l (s'.jf k).done = _; rw [t.jk]
/-- What is told of a tick in which k runs. -/
structure Told (s : Cr) (k : Nat) (x : Ran) : Prop where
  task : x.task = k
  took : x.took = tookC (s.jf k)
  over : x.over = decide ((s.jf k).cost ≤ (s.jf k).done + 1)
  within : x.within = if x.over = true then s.now + 1 - (s.jf k).rel else 0
  late : x.late = (x.over && decide (s.now + 1 > (s.jf k).dl))
theorem tick_goes {s : Cr} {k : Nat} (h : COk s) (hd : (s.jf k).done < (s.jf k).cost) (g : Goes s k) : Ticked s (tickC s).1 k ∧ Told s k (tickC s).2 := by
  have hm : min ((s.jf k).done + 1) (s.jf k).cost = (s.jf k).done + 1 := by omega
  have hs : stepJ (s.jf k) = { s.jf k with done := (s.jf k).done + 1 } := by show JC.mk _ _ _ _ (min _ _) _ = _; rw [hm]
  by_cases ho : min ((s.jf k).done + 1) (s.jf k).cost ≥ (s.jf k).cost
  · rw [tick_over g.f1 g.f2 ho, hs]
    have ho' : (s.jf k).cost ≤ (s.jf k).done + 1 := by omega
    refine ⟨⟨g, rfl, rfl, rfl, fun m => ?_⟩, ⟨rfl, rfl, ?_, rfl, ?_⟩⟩
    · show hasB (s.live &&& ~~~(bitv (k : Int))) (m : Int) = true ↔ hasB s.live (m : Int) = true ∧ _
      constructor
      · intro hx
        rw [live_without g.lt (hasB_lt hx)] at hx
        simp only [Bool.and_eq_true, Bool.not_eq_true', decide_eq_false_iff_not] at hx
        exact ⟨hx.1, fun c => absurd c hx.2⟩
      · rintro ⟨h1, h2⟩
        rw [live_without g.lt (hasB_lt h1), h1]
        simp; intro c; have := h2 c; omega
    · show true = _; simp [ho']
    · show decide _ = (true && decide _); rfl
  · rw [tick_on g.f1 g.f2 ho, hs]
    have ho' : ¬ (s.jf k).cost ≤ (s.jf k).done + 1 := by omega
    refine ⟨⟨g, rfl, rfl, rfl, fun m => ?_⟩, ⟨rfl, rfl, ?_, rfl, rfl⟩⟩
    · show s.L m ↔ _
      exact ⟨fun h' => ⟨h', fun _ => by omega⟩, fun h' => h'.1⟩
    · show false = _; simp [ho']
theorem Sys.tick {ts : List (Nat → Int)} {A : Nat → Prop} {s s' : Cr} {k : Nat} (h : Sys ts A s) (hn : s.now < 1000000000) (hs : s' = (tickC s).1) (t : Ticked s s' k) : Sys ts A s' := by
  obtain ⟨ek, hek, hok, hdk, _⟩ := h.task t.g.l
  have pq : ∀ q, s.L q → q ≠ k → 0 ≤ s.H q → 0 ≤ s'.H k → (k : Int) < s.eff q ∨ (q : Int) < s'.eff k := fun q hq hqk h1 h2 => by
    by_cases hh : s.H k < 0
    · exact .inl ((t.g.free h.ok hh hq).1 h1)
    · have e1 : s'.H k = s.H k := by
        rw [t.hk] at h2 ⊢
        exact hold_stay' hok h2 (by show 0 ≤ s.H k; omega)
      have e2 : s'.eff k = s.eff k := by show levelV _ _ _ = levelV _ _ _; rw [t.tab, e1]
      rw [e2]
      exact h.apart k q t.g.l hq (Ne.symm hqk) (by omega) h1
  refine ⟨by rw [hs]; exact tick_ok h.ok hn, fun m hm => h.al m ((t.live m).1 hm).1, fun m e hm he => ?_, fun m e ha he r hr hu => by rw [t.tab]; exact h.tab m e ha he r hr hu, fun p q hp hq hpq p1 q1 => ?_⟩
  · have hm' := (t.live m).1 hm
    obtain ⟨g1, g2, g3, g4, g5⟩ := h.job m e hm'.1 he
    by_cases c : m = k
    · subst c
      rw [t.jk, t.now]
      exact ⟨g1, hm'.2 rfl, g3, g4, by show (s.jf m).rel ≤ _; omega⟩
    · rw [t.jne c, t.now]; exact ⟨g1, g2, g3, g4, by omega⟩
  · have hp' := ((t.live p).1 hp).1
    have hq' := ((t.live q).1 hq).1
    by_cases c1 : p = k
    · subst c1
      have := t.hne (Ne.symm hpq)
      rw [this.2]; rw [this.1] at q1
      exact pq q hq' (Ne.symm hpq) q1 p1
    · by_cases c2 : q = k
      · subst c2
        have := t.hne c1
        rw [this.2]; rw [this.1] at p1
        exact (pq p hp' c1 p1 q1).symm
      · have e1 := t.hne c1
        have e2 := t.hne c2
        rw [e1.2, e2.2]; rw [e1.1] at p1; rw [e2.1] at q1
        exact h.apart p q hp' hq' hpq p1 q1
theorem Sys.idle {ts : List (Nat → Int)} {A : Nat → Prop} {s : Cr} (h : Sys ts A s) (hn : s.now < 1000000000) (hl : ∀ m, ¬ s.L m) : Sys ts A { s with now := s.now + 1 } := by
  have hnow := h.ok.now
  exact ⟨⟨h.ok.r, h.ok.own, h.ok.tab, h.ok.live, ⟨by show 0 ≤ s.now + 1; omega, by show s.now + 1 ≤ _; omega⟩, h.ok.rl⟩, h.al, fun m _ hm => absurd hm (hl m), h.tab, fun p _ hp => absurd hp (hl p)⟩
/-- A tick: somebody runs, or nobody is there. -/
theorem Sys.tick_or {ts : List (Nat → Int)} {A : Nat → Prop} {s : Cr} (h : Sys ts A s) (hn : s.now < 1000000000) : Sys ts A (tickC s).1 ∧ ((∃ k, Ticked s (tickC s).1 k ∧ Told s k (tickC s).2) ∨ ((∀ m, ¬ s.L m) ∧ tickC s = ({ s with now := s.now + 1 }, ⟨-1, -1, -1, false, 0, false⟩))) := by
  rcases goes_or h.ok with ⟨k, g⟩ | ⟨h1, h2⟩
  · obtain ⟨e, _, _, hd, _⟩ := h.task g.l
    obtain ⟨t1, t2⟩ := tick_goes h.ok hd g
    exact ⟨h.tick hn rfl t1, .inl ⟨k, t1, t2⟩⟩
  · have := tick_no (s := s) (by rw [h1])
    exact ⟨by rw [this]; exact h.idle hn h2, .inr ⟨h2, this⟩⟩
/-! ### A job comes -/
/-- The core with one more job. -/
structure Came (s s' : Cr) (k : Nat) (j : JC) : Prop where
  no : ¬ s.L k
  lt : k < 16
  jf : s'.jf = upd s.jf k j
  tab : s'.tab = s.tab
  now : s'.now = s.now
  live : ∀ m, s'.L m ↔ s.L m ∨ m = k
theorem rel_came {s : Cr} {j : JC} {a : Arr Sec} {k : Nat} (hk : j.id = k) (he : relErr s j = 0) : Came s (relC s j a) k { j with secs := a } ∧ j.done < j.cost := by
  have hid : ¬ (j.id < 0 ∨ j.id ≥ 16 ∨ j.done ≥ j.cost) := fun c => by rw [rel_100 c] at he; cases he
  have hk16 : k < 16 := by omega
  have hno : hasB s.live (k : Int) = false := by
    cases hc : hasB s.live (k : Int) with
    | false => rfl
    | true => rw [← hk] at hc; rw [rel_242 hid hc] at he; cases he
  rw [relC_0 he]
  refine ⟨⟨by show ¬ hasB _ _ = true; rw [hno]; decide, hk16, by show upd s.jf j.id.toNat _ = _; rw [hk, Int.toNat_natCast], rfl, rfl, fun m => ?_⟩, by omega⟩
  show hasB (s.live ||| bitv j.id) (m : Int) = true ↔ hasB s.live (m : Int) = true ∨ _
  rw [hk]
  constructor
  · intro hx
    rw [live_with hk16 (hasB_lt hx)] at hx
    simpa using hx
  · rintro (hx | rfl)
    · rw [live_with hk16 (hasB_lt hx), hx]; rfl
    · rw [live_with hk16 (by omega)]; simp
theorem Came.jne {s s' : Cr} {k m : Nat} {j : JC} (t : Came s s' k j) (h : m ≠ k) : s'.jf m = s.jf m := by rw [t.jf, upd_ne _ _ h]
theorem Came.hne {s s' : Cr} {k m : Nat} {j : JC} (t : Came s s' k j) (h : m ≠ k) : s'.H m = s.H m ∧ s'.eff m = s.eff m := by
  have e : s'.H m = s.H m := by show hold _ _ = hold _ _; rw [t.jne h]
  exact ⟨e, by show levelV _ _ _ = levelV _ _ _; rw [t.tab, e]⟩
theorem Came.hk {s s' : Cr} {k : Nat} {j : JC} (t : Came s s' k j) : s'.H k = hold j.secs.l j.done := by show hold (s'.jf k).secs.l (s'.jf k).done = _; rw [t.jf, upd_same]
theorem Sys.came {ts : List (Nat → Int)} {A : Nat → Prop} {s s' : Cr} {k : Nat} {j : JC} {e : Nat → Int} (h : Sys ts A s) (ho : COk s') (t : Came s s' k j) (ha : A k) (he : ts[k]? = some e) (h0 : j.done = 0) (hc : 0 < j.cost) (hl : okL e j.cost 0 j.secs.l) (hle : j.cost ≤ e 2) (hdl : j.dl = j.rel + e 1) (hr : j.rel ≤ s.now) : Sys ts A s' := by
  have hk : s'.H k = -1 := by rw [t.hk, h0]; exact hold_0 hl
  refine ⟨ho, fun m hm => ?_, fun m e' hm he' => ?_, fun m e ha he r hr hu => by rw [t.tab]; exact h.tab m e ha he r hr hu, fun p q hp hq hpq p1 q1 => ?_⟩
  · rcases (t.live m).1 hm with h' | rfl
    · exact h.al m h'
    · exact ⟨ha, (List.getElem?_eq_some_iff.1 he).1⟩
  · rw [t.now]
    by_cases c : m = k
    · subst c
      rw [he] at he'; cases he'
      rw [t.jf, upd_same]
      exact ⟨hl, by omega, hle, hdl, hr⟩
    · rw [t.jne c]
      exact h.job m e' (((t.live m).1 hm).resolve_right c) he'
  · have c1 : p ≠ k := fun c => by subst c; omega
    have c2 : q ≠ k := fun c => by subst c; omega
    have e1 := t.hne c1
    have e2 := t.hne c2
    rw [e1.2, e2.2]; rw [e1.1] at p1; rw [e2.1] at q1
    exact h.apart p q (((t.live p).1 hp).resolve_right c1) (((t.live q).1 hq).resolve_right c2) hpq p1 q1
/-- No jobs yet, the ceilings of the allowed. -/
theorem Sys.zero {ts : List (Nat → Int)} {A : Nat → Prop} {t : Nat → Int} (ht : ∀ r : Nat, r < 8 → 0 ≤ t r ∧ t r ≤ 16) (h : ∀ k e, A k → ts[k]? = some e → ∀ r : Nat, r < 8 → 0 < e (3 + r) → t r ≤ k) : Sys ts A (ceilC cr0 t) := by
  have hl : ∀ m, ¬ (ceilC cr0 t).L m := fun m hm => by
    have hm : hasB 0#32 (m : Int) = true := hm
    simp [hasB] at hm
  exact ⟨ceil_ok cr0_ok ht, fun m hm => absurd hm (hl m), fun m _ hm => absurd hm (hl m), h, fun p _ hp => absurd hp (hl p)⟩
end Go.Proofs.YtkkdchgnknpceaaDoor
end

section
namespace Go.Proofs.YtkkdchgnknpceaaDoor
open Go Go.Sl
set_option linter.unusedVariables false
set_option linter.unusedSimpArgs false
set_option maxRecDepth 4000
variable {B : Nat} {K : Asrt B}
theorem en_18 : Go.Proofs.Enters Tryd.prog 18 := Go.Proofs.enters_of Tryd.func18 (by kernel_rfl) rfl
theorem fld_41_0 : fldOff Tryd.prog 41 0 = some 0 := by kernel_rfl
theorem fld_41_2 : fldOff Tryd.prog 41 2 = some 2 := by kernel_rfl
theorem fld_41_4 : fldOff Tryd.prog 41 4 = some 4 := by kernel_rfl
theorem slc_27 : slcOf Tryd.prog 27 = some (41, 5) := by kernel_rfl
theorem tk_41 : tyK Tryd.prog 41 = some (true, 5) := by kernel_rfl

theorem idx_of (a : Int) {n : Nat} (h : 0 < n) : ∃ j : Nat, j < n ∧ Int.tmod (Int.tmod a n + n) n = j ∧ -(n : Int) < Int.tmod a n ∧ Int.tmod a n < n := by
  have h1 : Int.tmod a n < n := Int.tmod_lt_of_pos a (by omega)
  have h2 : -(n : Int) < Int.tmod a n := Int.lt_tmod_of_pos a (by omega)
  have h3 : Int.tmod (Int.tmod a n + n) n = (Int.tmod a n + n) % n := Int.tmod_eq_emod_of_nonneg (by omega)
  have h4 := Int.emod_nonneg (Int.tmod a n + n) (show (n : Int) ≠ 0 by omega)
  have h5 := Int.emod_lt_of_pos (Int.tmod a n + n) (show 0 < (n : Int) by omega)
  obtain ⟨j, hj⟩ := Int.eq_ofNat_of_zero_le h4
  exact ⟨j, by omega, by rw [h3, hj], h2, h1⟩
structure OpS where
  kind : Int
  task : Int
  cost : Int
  set : BitVec 32
  secs : Arr Sec
abbrev encOp (o : OpS) : List Value := [.int .i64 o.kind, .int .i64 o.task, .int .i64 o.cost, .int .u32 o.set.toNat, .slice o.secs.oad o.secs.l.length o.secs.c]
/-- A list of calls that may be looked at. -/
structure OpsIn (K : Asrt B) (l : Arr OpS) : Prop where
  ops : Rd K l.ad (l.l.flatMap encOp)
  secs : ∀ o ∈ l.l, Rd K o.secs.ad (o.secs.l.flatMap encS)
def ticksO (o : OpS) : Int := Int.tmod (Int.tmod o.cost 50 + 50) 50 + 1
theorem ticks_in (o : OpS) : 1 ≤ ticksO o ∧ ticksO o ≤ 50 := by
  obtain ⟨j, h1, h2, _⟩ := idx_of o.cost (n := 50) (by decide)
  have h2 : Int.tmod (Int.tmod o.cost 50 + 50) 50 = j := h2
  unfold ticksO; omega
/-- What a list of calls is bounded by. -/
structure OpsP (l : List OpS) : Prop where
  n : l.length ≤ 60
  secs : ∀ o ∈ l, o.secs.l.length ≤ 50

theorem oticks (o : OpS) : Ctr Tryd.prog B 18 [.agg (encOp o).toArray] [] (fun v S => v = .int .i64 (ticksO o) ∧ S = []) := by
  refine Ctr_of_X (N := 9) Tryd.func18 rfl (by simp) rfl ?_
  intro w0 D0
  obtain ⟨q, hq1, hq2, hq3, hq4⟩ := idx_of o.cost (n := 50) (by decide)
  have hq2 : Int.tmod (Int.tmod o.cost 50 + 50) 50 = q := hq2
  have hq3 : -50 < Int.tmod o.cost 50 := hq3
  have hq4 : Int.tmod o.cost 50 < 50 := hq4
  refine X_seq ?_
  refine X_region ?_
  refine XL_box (cs := encOp o) .no rfl rfl rfl (fun b1 => ?_)
  refine XL_det .no (D_pure rfl) rfl ?_
  refine XL_then ?_
  refine X_seq ?_
  refine X_region ?_
  refine XL_det .no (D_fld rfl fld_41_2 (o' := 2) rfl) rfl ?_
  refine XL_det .no (D_ldo rfl (by repeat first | with_reducible exact .here _ _ | with_reducible apply Out.there | with_reducible apply Out.app) tk_3 (by rfl)) rfl ?_
  refine XL_det .no (D_divmod rfl rfl (by omega) rfl) rfl ?_
  refine XL_det .no (D_add rfl rfl (by omega) (by omega)) rfl ?_
  refine XL_det .no (D_divmod rfl rfl (by omega) rfl) rfl ?_
  refine XL_det .no (D_add rfl rfl (by omega) (by omega)) rfl ?_
  refine XL_det .no (D_pure rfl) rfl ?_
  refine XL_then ?_
  refine X_ret ?_
  refine ret_ok (.nil _) (res_tmp rfl rfl) ?_
  exact ⟨_, ⟨rfl, rfl⟩, _, (by repeat first | with_reducible exact .nil _ | with_reducible exact .here _ _ | with_reducible exact Take.self _ | with_reducible apply Take.cons | with_reducible apply Out.there | with_reducible apply Take.skip | with_reducible exact Take.pre _ _ | with_reducible apply Out.app)⟩

theorem ogreat (l : Arr OpS) (hl : OpsIn K l) : Ctr Tryd.prog B 11 [.slice l.oad l.l.length l.c, .int .i64 60] [K] (fun v S => ∃ b, v = .bool b ∧ (b = false → OpsP l.l) ∧ S = [K]) := by
  refine Ctr_of_X (N := 55) Tryd.func11 rfl (by simp) rfl ?_
  intro w0 D0
  refine X_seq ?_
  refine X_region ?_
  refine XL_det .no (D_pure rfl) rfl ?_
  refine XL_then ?_
  refine X_seq ?_
  refine X_region ?_
  refine XL_det .no (D_pure rfl) rfl ?_
  refine XL_then ?_
  refine X_seq ?_
  refine X_seq ?_
  refine X_region ?_
  refine XL_det .no (D_pure rfl) rfl ?_
  refine XL_then ?_
  refine X_block ?_
  refine X_loop (α := Nat × Int) (fun ⟨i, n⟩ => i ≤ l.l.length ∧ i ≤ 61 ∧ 0 ≤ n ∧ n ≤ 50 * i ∧ ∀ o ∈ l.l.take i, o.secs.l.length ≤ 50) (fun ⟨i, n⟩ => [(6, .int .i64 (i : Int)), (5, .int .i64 n), (0, .slice l.oad l.l.length l.c), (1, .int .i64 60)]) (fun ⟨i, n⟩ => [K]) (fun ⟨i, n⟩ => l.l.length - i) (0, 0) ?_ (by refine ⟨?_, ?_, ?_, ?_, trivial⟩ <;> rfl) (by repeat first | with_reducible exact .nil _ | with_reducible exact .here _ _ | with_reducible exact Take.self _ | with_reducible apply Take.cons | with_reducible apply Out.there | with_reducible apply Take.skip | with_reducible exact Take.pre _ _ | with_reducible apply Out.app) ?_
  · exact ⟨by omega, by omega, by omega, by omega, fun o ho => by simp at ho⟩
  · rintro ⟨i, n⟩ ⟨hi, hi61, hn0, hn, hs⟩
    dsimp only
    have hsl := l.small
    refine X_seq ?_
    refine X_seq ?_
    refine X_region ?_
    refine XL_det .no (D_pure rfl) rfl ?_
    refine XL_det .no (D_pure rfl) rfl ?_
    refine XL_det .no (D_len rfl rfl slc_27) rfl ?_
    refine XL_det .no (D_pure rfl) rfl ?_
    refine XL_det .no (D_pure rfl) rfl ?_
    refine XL_split (t := 12) rfl (fun h1 => ?_) (fun h1 => ?_)
    · try simp only [decide_eq_true_eq, decide_eq_false_iff_not, Bool.not_eq_true', Bool.not_eq_false', beq_iff_eq, bne_iff_ne, beq_eq_false_iff_ne, bne_eq_false_iff_eq, Int.not_lt, Int.not_le, gt_iff_lt, ge_iff_le, ne_eq] at h1
      obtain ⟨o, hg⟩ : ∃ o, l.l[i]? = some o := ⟨_, List.getElem?_eq_getElem (by omega)⟩
      have ht := ticks_in o
      obtain ⟨q, hq1, hq2, hq3, hq4⟩ := idx_of o.kind (n := 6) (by decide)
      have hq2 : Int.tmod (Int.tmod o.kind 6 + 6) 6 = q := hq2
      have hq3 : -6 < Int.tmod o.kind 6 := hq3
      have hq4 : Int.tmod o.kind 6 < 6 := hq4
      refine XL_det (.yes 12 rfl rfl rfl) (D_pure rfl) rfl ?_
      refine XL_det (.yes 12 rfl rfl rfl) (D_pure rfl) rfl ?_
      refine XL_det (.yes 12 rfl rfl rfl) (D_pure rfl) rfl ?_
      refine XL_det .no (D_pure rfl) rfl ?_
      refine XL_then ?_
      refine X_cond rfl (fun h2 => ?_) (fun h2 => ?_)
      · try simp only [decide_eq_true_eq, decide_eq_false_iff_not, Bool.not_eq_true', Bool.not_eq_false', beq_iff_eq, bne_iff_ne, beq_eq_false_iff_ne, bne_eq_false_iff_eq, Int.not_lt, Int.not_le, gt_iff_lt, ge_iff_le, ne_eq] at h2
        refine X_skip ?_
        refine thenX_normal ?_
        refine X_seq ?_
        refine X_block ?_
        refine X_seq ?_
        refine X_seq ?_
        refine X_region ?_
        refine XL_det .no (D_pure rfl) rfl ?_
        refine XL_det .no (D_pure rfl) rfl ?_
        refine XL_det .no (D_idxSo rfl rfl slc_27 (l).nil0 rfl (by omega) rfl) rfl ?_
        refine XL_det .no (D_fldA rfl fld_41_4 rfl) rfl ?_
        refine XL_det .no (D_ela (enc := encOp) (sz := 5) (i := i) (k := 4) (fun _ => rfl) rfl (by repeat first | with_reducible exact .here _ _ | with_reducible apply Out.there | with_reducible apply Out.app) hl.ops tk_39 hg rfl) rfl ?_
        refine XL_det .no (D_len rfl rfl slc_39) rfl ?_
        refine XL_det .no (D_pure rfl) rfl ?_
        refine XL_then ?_
        refine X_cond rfl (fun h3 => ?_) (fun h3 => ?_)
        · try simp only [decide_eq_true_eq, decide_eq_false_iff_not, Bool.not_eq_true', Bool.not_eq_false', beq_iff_eq, bne_iff_ne, beq_eq_false_iff_ne, bne_eq_false_iff_eq, Int.not_lt, Int.not_le, gt_iff_lt, ge_iff_le, ne_eq] at h3
          refine X_seq ?_
          refine X_region ?_
          refine XL_det .no (D_pure rfl) rfl ?_
          refine XL_then ?_
          refine X_ret ?_
          refine thenX_ret ?_
          refine inBlk_ret ?_
          refine thenX_ret ?_
          refine loopQ_ret ?_
          refine inBlk_ret ?_
          refine thenX_ret ?_
          refine ret_ok (.nil _) (res_tmp rfl rfl) ?_
          exact ⟨[K], ⟨true, rfl, (fun hb => by cases hb), rfl⟩, _, (by repeat first | with_reducible exact .nil _ | with_reducible exact .here _ _ | exact .here _ _ | with_reducible exact Take.self _ | with_reducible apply Take.cons | with_reducible apply Out.there | with_reducible apply Take.skip | with_reducible exact Take.pre _ _ | with_reducible apply Out.app)⟩
        · try simp only [decide_eq_true_eq, decide_eq_false_iff_not, Bool.not_eq_true', Bool.not_eq_false', beq_iff_eq, bne_iff_ne, beq_eq_false_iff_ne, bne_eq_false_iff_eq, Int.not_lt, Int.not_le, gt_iff_lt, ge_iff_le, ne_eq] at h3
          refine X_skip ?_
          refine thenX_normal ?_
          refine X_seq ?_
          refine X_region ?_
          refine XL_det .no (D_pure rfl) rfl ?_
          refine XL_det .no (D_pure rfl) rfl ?_
          refine XL_det .no (D_idxSo rfl rfl slc_27 (l).nil0 rfl (by omega) rfl) rfl ?_
          refine XL_det .no (D_fldA rfl fld_41_0 rfl) rfl ?_
          refine XL_det .no (D_ela (enc := encOp) (sz := 5) (i := i) (k := 0) (fun _ => rfl) rfl (by repeat first | with_reducible exact .here _ _ | with_reducible apply Out.there | with_reducible apply Out.app) hl.ops tk_3 hg rfl) rfl ?_
          refine XL_det .no (D_divmod rfl rfl (by omega) rfl) rfl ?_
          refine XL_det .no (D_add rfl rfl (by omega) (by omega)) rfl ?_
          refine XL_det .no (D_divmod rfl rfl (by omega) rfl) rfl ?_
          refine XL_det .no (D_pure rfl) rfl ?_
          refine XL_then ?_
          refine X_seq ?_
          refine X_region ?_
          refine XL_det .no (D_pure rfl) rfl ?_
          refine XL_det .no (D_pure rfl) rfl ?_
          refine XL_det .no (D_pure rfl) rfl ?_
          refine XL_split (t := 36) rfl (fun h4 => ?_) (fun h4 => ?_)
          · try simp only [decide_eq_true_eq, decide_eq_false_iff_not, Bool.not_eq_true', Bool.not_eq_false', beq_iff_eq, bne_iff_ne, beq_eq_false_iff_ne, bne_eq_false_iff_eq, Int.not_lt, Int.not_le, gt_iff_lt, ge_iff_le, ne_eq] at h4
            refine XL_det (.yes 36 rfl rfl rfl) (D_pure rfl) rfl ?_
            refine XL_det (.yes 36 rfl rfl rfl) (D_pure rfl) rfl ?_
            refine XL_det .no (D_pure rfl) rfl ?_
            refine XL_then ?_
            refine X_cond rfl (fun h5 => ?_) (fun h5 => ?_)
            · try simp only [decide_eq_true_eq, decide_eq_false_iff_not, Bool.not_eq_true', Bool.not_eq_false', beq_iff_eq, bne_iff_ne, beq_eq_false_iff_ne, bne_eq_false_iff_eq, Int.not_lt, Int.not_le, gt_iff_lt, ge_iff_le, ne_eq] at h5
              refine X_region ?_
              refine XL_det .no (D_pure rfl) rfl ?_
              refine XL_det .no (D_pure rfl) rfl ?_
              refine XL_det .no (D_pure rfl) rfl ?_
              refine XL_det .no (D_idxSo rfl rfl slc_27 (l).nil0 rfl (by omega) rfl) rfl ?_
              refine XL_det .no (D_els (enc := encOp) (sz := 5) (i := i) (fun _ => rfl) rfl (by repeat first | with_reducible exact .here _ _ | with_reducible apply Out.there | with_reducible apply Out.app) hl.ops tk_41 hg) rfl ?_
              refine XL_callv .no en_18 rfl (oticks o) rfl ?_
              refine XL_det .no (D_add rfl rfl (by omega) (by omega)) rfl ?_
              refine XL_det .no (D_pure rfl) rfl ?_
              refine XL_nil ?_
              refine inBlk_normal ?_
              refine thenX_normal ?_
              refine X_region ?_
              refine XL_det .no (D_pure rfl) rfl ?_
              refine XL_det .no (D_add rfl rfl (by omega) (by omega)) rfl ?_
              refine XL_det .no (D_pure rfl) rfl ?_
              refine XL_nil ?_
              refine loopQ_next (i + 1, n + ticksO o) ?_ ?_ ?_ ?_
              · (try dsimp only); exact ⟨by omega, by omega, by omega, by omega, all_s hg (show o.secs.l.length ≤ 50 by omega) hs⟩
              · (try dsimp only); omega
              · refine ⟨?_, ?_, ?_, ?_, trivial⟩ <;> rfl
              · (try dsimp only); exact ⟨_, (by repeat first | with_reducible exact .nil _ | with_reducible exact .here _ _ | with_reducible exact Take.self _ | with_reducible apply Take.cons | with_reducible apply Out.there | with_reducible apply Take.skip | with_reducible exact Take.pre _ _ | with_reducible apply Out.app)⟩
            · try simp only [decide_eq_true_eq, decide_eq_false_iff_not, Bool.not_eq_true', Bool.not_eq_false', beq_iff_eq, bne_iff_ne, beq_eq_false_iff_ne, bne_eq_false_iff_eq, Int.not_lt, Int.not_le, gt_iff_lt, ge_iff_le, ne_eq] at h5
              refine X_skip ?_
              refine inBlk_normal ?_
              refine thenX_normal ?_
              refine X_region ?_
              refine XL_det .no (D_pure rfl) rfl ?_
              refine XL_det .no (D_add rfl rfl (by omega) (by omega)) rfl ?_
              refine XL_det .no (D_pure rfl) rfl ?_
              refine XL_nil ?_
              refine loopQ_next (i + 1, n) ?_ ?_ ?_ ?_
              · (try dsimp only); exact ⟨by omega, by omega, by omega, by omega, all_s hg (show o.secs.l.length ≤ 50 by omega) hs⟩
              · (try dsimp only); omega
              · refine ⟨?_, ?_, ?_, ?_, trivial⟩ <;> rfl
              · (try dsimp only); exact ⟨_, (by repeat first | with_reducible exact .nil _ | with_reducible exact .here _ _ | with_reducible exact Take.self _ | with_reducible apply Take.cons | with_reducible apply Out.there | with_reducible apply Take.skip | with_reducible exact Take.pre _ _ | with_reducible apply Out.app)⟩
          · try simp only [decide_eq_true_eq, decide_eq_false_iff_not, Bool.not_eq_true', Bool.not_eq_false', beq_iff_eq, bne_iff_ne, beq_eq_false_iff_ne, bne_eq_false_iff_eq, Int.not_lt, Int.not_le, gt_iff_lt, ge_iff_le, ne_eq] at h4
            refine XL_skip 36 rfl rfl rfl rfl rfl ?_
            refine XL_skip 36 rfl rfl rfl rfl rfl ?_
            refine XL_det .no (D_pure rfl) rfl ?_
            refine XL_then ?_
            refine X_cond_f rfl rfl ?_
            refine X_skip ?_
            refine inBlk_normal ?_
            refine thenX_normal ?_
            refine X_region ?_
            refine XL_det .no (D_pure rfl) rfl ?_
            refine XL_det .no (D_add rfl rfl (by omega) (by omega)) rfl ?_
            refine XL_det .no (D_pure rfl) rfl ?_
            refine XL_nil ?_
            refine loopQ_next (i + 1, n) ?_ ?_ ?_ ?_
            · (try dsimp only); exact ⟨by omega, by omega, by omega, by omega, all_s hg (show o.secs.l.length ≤ 50 by omega) hs⟩
            · (try dsimp only); omega
            · refine ⟨?_, ?_, ?_, ?_, trivial⟩ <;> rfl
            · (try dsimp only); exact ⟨_, (by repeat first | with_reducible exact .nil _ | with_reducible exact .here _ _ | with_reducible exact Take.self _ | with_reducible apply Take.cons | with_reducible apply Out.there | with_reducible apply Take.skip | with_reducible exact Take.pre _ _ | with_reducible apply Out.app)⟩
      · try simp only [decide_eq_true_eq, decide_eq_false_iff_not, Bool.not_eq_true', Bool.not_eq_false', beq_iff_eq, bne_iff_ne, beq_eq_false_iff_ne, bne_eq_false_iff_eq, Int.not_lt, Int.not_le, gt_iff_lt, ge_iff_le, ne_eq] at h2
        refine X_exit ?_
        refine thenX_exit ?_
        refine loopQ_exit ?_
        refine inBlk_here ?_
        refine thenX_normal ?_
        refine X_seq ?_
        refine X_region ?_
        refine XL_det .no (D_pure rfl) rfl ?_
        refine XL_det .no (D_len rfl rfl slc_27) rfl ?_
        refine XL_det .no (D_pure rfl) rfl ?_
        refine XL_det .no (D_pure rfl) rfl ?_
        refine XL_det .no (D_pure rfl) rfl ?_
        refine XL_split (t := 51) rfl (fun h6 => ?_) (fun h6 => ?_)
        · try simp only [decide_eq_true_eq, decide_eq_false_iff_not, Bool.not_eq_true', Bool.not_eq_false', beq_iff_eq, bne_iff_ne, beq_eq_false_iff_ne, bne_eq_false_iff_eq, Int.not_lt, Int.not_le, gt_iff_lt, ge_iff_le, ne_eq] at h6
          refine XL_skip 51 rfl rfl rfl rfl rfl ?_
          refine XL_skip 51 rfl rfl rfl rfl rfl ?_
          refine XL_det .no (D_pure rfl) rfl ?_
          refine XL_det .no (D_pure rfl) rfl ?_
          refine XL_then ?_
          refine X_ret ?_
          refine ret_ok (.nil _) (res_tmp rfl rfl) ?_
          refine ⟨[K], ⟨_, rfl, (fun hb => ?_), rfl⟩, _, (by repeat first | with_reducible exact .nil _ | with_reducible exact .here _ _ | exact .here _ _ | with_reducible exact Take.self _ | with_reducible apply Take.cons | with_reducible apply Out.there | with_reducible apply Take.skip | with_reducible exact Take.pre _ _ | with_reducible apply Out.app)⟩
          first | (cases hb; done) | (exact ⟨by omega, by rw [List.take_of_length_le (by omega)] at hs; exact hs⟩)
        · try simp only [decide_eq_true_eq, decide_eq_false_iff_not, Bool.not_eq_true', Bool.not_eq_false', beq_iff_eq, bne_iff_ne, beq_eq_false_iff_ne, bne_eq_false_iff_eq, Int.not_lt, Int.not_le, gt_iff_lt, ge_iff_le, ne_eq] at h6
          refine XL_det (.yes 51 rfl rfl rfl) (D_pure rfl) rfl ?_
          refine XL_det (.yes 51 rfl rfl rfl) (D_pure rfl) rfl ?_
          refine XL_det .no (D_pure rfl) rfl ?_
          refine XL_det .no (D_pure rfl) rfl ?_
          refine XL_then ?_
          refine X_ret ?_
          refine ret_ok (.nil _) (res_tmp rfl rfl) ?_
          refine ⟨[K], ⟨_, rfl, (fun hb => ?_), rfl⟩, _, (by repeat first | with_reducible exact .nil _ | with_reducible exact .here _ _ | exact .here _ _ | with_reducible exact Take.self _ | with_reducible apply Take.cons | with_reducible apply Out.there | with_reducible apply Take.skip | with_reducible exact Take.pre _ _ | with_reducible apply Out.app)⟩
          first | (cases hb; done) | (exact ⟨by omega, by rw [List.take_of_length_le (by omega)] at hs; exact hs⟩)
    · try simp only [decide_eq_true_eq, decide_eq_false_iff_not, Bool.not_eq_true', Bool.not_eq_false', beq_iff_eq, bne_iff_ne, beq_eq_false_iff_ne, bne_eq_false_iff_eq, Int.not_lt, Int.not_le, gt_iff_lt, ge_iff_le, ne_eq] at h1
      refine XL_skip 12 rfl rfl rfl rfl rfl ?_
      refine XL_skip 12 rfl rfl rfl rfl rfl ?_
      refine XL_skip 12 rfl rfl rfl rfl rfl ?_
      refine XL_det .no (D_pure rfl) rfl ?_
      refine XL_then ?_
      refine X_cond_f rfl rfl ?_
      refine X_exit ?_
      refine thenX_exit ?_
      refine loopQ_exit ?_
      refine inBlk_here ?_
      refine thenX_normal ?_
      refine X_seq ?_
      refine X_region ?_
      refine XL_det .no (D_pure rfl) rfl ?_
      refine XL_det .no (D_len rfl rfl slc_27) rfl ?_
      refine XL_det .no (D_pure rfl) rfl ?_
      refine XL_det .no (D_pure rfl) rfl ?_
      refine XL_det .no (D_pure rfl) rfl ?_
      refine XL_split (t := 51) rfl (fun h7 => ?_) (fun h7 => ?_)
      · try simp only [decide_eq_true_eq, decide_eq_false_iff_not, Bool.not_eq_true', Bool.not_eq_false', beq_iff_eq, bne_iff_ne, beq_eq_false_iff_ne, bne_eq_false_iff_eq, Int.not_lt, Int.not_le, gt_iff_lt, ge_iff_le, ne_eq] at h7
        refine XL_skip 51 rfl rfl rfl rfl rfl ?_
        refine XL_skip 51 rfl rfl rfl rfl rfl ?_
        refine XL_det .no (D_pure rfl) rfl ?_
        refine XL_det .no (D_pure rfl) rfl ?_
        refine XL_then ?_
        refine X_ret ?_
        refine ret_ok (.nil _) (res_tmp rfl rfl) ?_
        refine ⟨[K], ⟨_, rfl, (fun hb => ?_), rfl⟩, _, (by repeat first | with_reducible exact .nil _ | with_reducible exact .here _ _ | exact .here _ _ | with_reducible exact Take.self _ | with_reducible apply Take.cons | with_reducible apply Out.there | with_reducible apply Take.skip | with_reducible exact Take.pre _ _ | with_reducible apply Out.app)⟩
        first | (cases hb; done) | (exact ⟨by omega, by rw [List.take_of_length_le (by omega)] at hs; exact hs⟩)
      · try simp only [decide_eq_true_eq, decide_eq_false_iff_not, Bool.not_eq_true', Bool.not_eq_false', beq_iff_eq, bne_iff_ne, beq_eq_false_iff_ne, bne_eq_false_iff_eq, Int.not_lt, Int.not_le, gt_iff_lt, ge_iff_le, ne_eq] at h7
        refine XL_det (.yes 51 rfl rfl rfl) (D_pure rfl) rfl ?_
        refine XL_det (.yes 51 rfl rfl rfl) (D_pure rfl) rfl ?_
        refine XL_det .no (D_pure rfl) rfl ?_
        refine XL_det .no (D_pure rfl) rfl ?_
        refine XL_then ?_
        refine X_ret ?_
        refine ret_ok (.nil _) (res_tmp rfl rfl) ?_
        refine ⟨[K], ⟨_, rfl, (fun hb => ?_), rfl⟩, _, (by repeat first | with_reducible exact .nil _ | with_reducible exact .here _ _ | exact .here _ _ | with_reducible exact Take.self _ | with_reducible apply Take.cons | with_reducible apply Out.there | with_reducible apply Take.skip | with_reducible exact Take.pre _ _ | with_reducible apply Out.app)⟩
        first | (cases hb; done) | (exact ⟨by omega, by rw [List.take_of_length_le (by omega)] at hs; exact hs⟩)

end Go.Proofs.YtkkdchgnknpceaaDoor
end

section
namespace Go.Proofs.YtkkdchgnknpceaaDoor
open Go Go.Sl
set_option linter.unusedVariables false
set_option linter.unusedSimpArgs false
set_option maxRecDepth 4000
variable {B : Nat} {K : Asrt B}
theorem en_30 : Go.Proofs.Enters Tryd.prog 30 := Go.Proofs.enters_of Tryd.func30 (by kernel_rfl) rfl

/-- The longest hold of a resource by those behind a task. -/
def longN (ts : List (Nat → Int)) (h : BitVec 32) (w r : Nat) : Nat → Int
  | 0 => 0
  | n + 1 => match ts[n]? with
    | some e => if w < n ∧ hasB h (n : Int) = true ∧ e (3 + r) > longN ts h w r n then e (3 + r) else longN ts h w r n
    | none => longN ts h w r n
abbrev longR (ts : List (Nat → Int)) (h : BitVec 32) (w r : Nat) : Int := longN ts h w r ts.length
def blkN (ts : List (Nat → Int)) (h c : BitVec 32) (w : Nat) : Nat → Int
  | 0 => 0
  | r + 1 => blkN ts h c w r + if ceilV ts c r > (w : Int) then 0 else longR ts h w r
abbrev blkV (ts : List (Nat → Int)) (h c : BitVec 32) (w : Nat) : Int := blkN ts h c w 8
theorem longN_lo {ts : List (Nat → Int)} {h : BitVec 32} {w r : Nat} : ∀ {n : Nat}, n ≤ w + 1 → longN ts h w r n = 0
  | 0, _ => rfl
  | n + 1, hn => by
    unfold longN
    cases ts[n]? with
    | none => exact longN_lo (by omega)
    | some e => show (if _ then _ else _) = _; rw [if_neg (by omega)]; exact longN_lo (by omega)
theorem longN_hi {ts : List (Nat → Int)} {h : BitVec 32} {w r : Nat} : ∀ {n : Nat}, ts.length ≤ n → longN ts h w r n = longR ts h w r
  | n, hn => by
    by_cases e : n = ts.length
    · rw [e]
    · obtain ⟨m, rfl⟩ : ∃ m, n = m + 1 := ⟨n - 1, by omega⟩
      rw [← longN_hi (show ts.length ≤ m by omega)]
      show (match ts[m]? with | some e => _ | none => _) = _
      rw [List.getElem?_eq_none (by omega)]
theorem longN_s {ts : List (Nat → Int)} {h : BitVec 32} {w r n : Nat} {e : Nat → Int} (he : ts[n]? = some e) : longN ts h w r (n + 1) = if w < n ∧ hasB h (n : Int) = true ∧ e (3 + r) > longN ts h w r n then e (3 + r) else longN ts h w r n := by
  show (match ts[n]? with | some e => _ | none => _) = _
  rw [he]
theorem longN_in {ts : List (Nat → Int)} {h : BitVec 32} {w r : Nat} (hT : ∀ e ∈ ts, e (3 + r) ≤ 4096) : ∀ n, 0 ≤ longN ts h w r n ∧ longN ts h w r n ≤ 4096
  | 0 => by unfold longN; omega
  | n + 1 => by
    have ih := longN_in (h := h) (w := w) hT n
    cases he : ts[n]? with
    | none =>
      have : longN ts h w r (n + 1) = longN ts h w r n := by
        show (match ts[n]? with | some e => _ | none => _) = _
        rw [he]
      omega
    | some e =>
      rw [longN_s he]
      have := hT e (List.mem_of_getElem? he)
      split <;> omega
theorem longN_mono {ts : List (Nat → Int)} {h : BitVec 32} {w r : Nat} (n : Nat) : longN ts h w r n ≤ longN ts h w r (n + 1) := by
  cases he : ts[n]? with
  | none =>
    have : longN ts h w r (n + 1) = longN ts h w r n := by
      show (match ts[n]? with | some e => _ | none => _) = _
      rw [he]
    omega
  | some e => rw [longN_s he]; split <;> omega
theorem longN_le {ts : List (Nat → Int)} {h : BitVec 32} {w r k : Nat} {e : Nat → Int} (he : ts[k]? = some e) (hw : w < k) (hk : hasB h (k : Int) = true) : ∀ {n : Nat}, k < n → e (3 + r) ≤ longN ts h w r n
  | 0, hn => by omega
  | n + 1, hn => by
    by_cases c : k = n
    · subst c; rw [longN_s he]
      by_cases g : e (3 + r) > longN ts h w r k
      · rw [if_pos ⟨hw, hk, g⟩]; omega
      · rw [if_neg (fun q => g q.2.2)]; omega
    · have := longN_le he hw hk (r := r) (show k < n by omega)
      have := longN_mono (ts := ts) (h := h) (w := w) (r := r) n
      omega
theorem blkN_s {ts : List (Nat → Int)} {h c : BitVec 32} {w r : Nat} : blkN ts h c w (r + 1) = blkN ts h c w r + if ceilV ts c r > (w : Int) then 0 else longR ts h w r := rfl
theorem blkN_in {ts : List (Nat → Int)} {h c : BitVec 32} {w : Nat} (hT : ∀ e ∈ ts, ∀ r : Nat, r < 8 → e (3 + r) ≤ 4096) : ∀ n, n ≤ 8 → 0 ≤ blkN ts h c w n ∧ blkN ts h c w n ≤ 4096 * n
  | 0, _ => by unfold blkN; omega
  | n + 1, hn => by
    have ih := blkN_in (h := h) (c := c) (w := w) hT n (by omega)
    have : 0 ≤ longR ts h w n ∧ longR ts h w n ≤ 4096 := longN_in (ts := ts) (h := h) (w := w) (r := n) (fun e he => hT e he n (by omega)) ts.length
    rw [blkN_s]; split <;> omega
/-- Who is behind a task holds what lets it go ahead no longer than is reckoned. -/
theorem blk_ge {ts : List (Nat → Int)} {h c : BitVec 32} {w r k : Nat} {e : Nat → Int} (hT : ∀ e ∈ ts, ∀ r : Nat, r < 8 → e (3 + r) ≤ 4096) (he : ts[k]? = some e) (hw : w < k) (hk : hasB h (k : Int) = true) (hc : ceilV ts c r ≤ (w : Int)) : ∀ {n : Nat}, n ≤ 8 → r < n → e (3 + r) ≤ blkN ts h c w n
  | 0, _, hn => by omega
  | n + 1, h8, hn => by
    have ih := blkN_in (h := h) (c := c) (w := w) hT n (by omega)
    have hl : 0 ≤ longR ts h w n ∧ longR ts h w n ≤ 4096 := longN_in (ts := ts) (h := h) (w := w) (r := n) (fun e he => hT e he n (by omega)) ts.length
    rw [blkN_s]
    by_cases q : r = n
    · subst q
      have := longN_le (r := r) he hw hk (List.getElem?_eq_some_iff.1 he).1
      rw [if_neg (by omega)]
      show _ ≤ _ + longR ts h w r
      unfold longR; omega
    · have := blk_ge hT he hw hk hc (show n ≤ 8 by omega) (show r < n by omega)
      split <;> omega
theorem RightP.long {x : Img} (h : RightP x) : ∀ e ∈ x.tasks.l, ∀ r : Nat, r < 8 → e (3 + r) ≤ 4096 := fun e he r hr => by
  have := h.tasks e he
  have h1 := (this.l r hr).2.1; have h2 := this.c.2; have h3 := this.d.2; have h4 := this.p.2
  omega
theorem ceil_hit {ts : List (Nat → Int)} {s : BitVec 32} {r i : Nat} (h16 : i < 16) (hh : hitB ts s r i = true) (hn : ∀ j : Nat, j < i → hitB ts s r j = false) : ((i : Nat) : Int) = ceilV ts s r :=
  Least16.uniq ⟨fun j _ hp => by
    by_cases c : j < i
    · rw [hn j c] at hp; cases hp
    · exact Int.ofNat_le.2 (Nat.not_lt.1 c), Or.inr ⟨i, h16, hh, rfl⟩⟩ (ceilV_least ts s r)
theorem ceil_none {ts : List (Nat → Int)} {s : BitVec 32} {r n : Nat} (hl : ts.length ≤ n) (hn : ∀ j : Nat, j < n → hitB ts s r j = false) : (16 : Int) = ceilV ts s r :=
  Least16.uniq ⟨fun j _ hp => by
    exfalso
    by_cases c : j < n
    · rw [hn j c] at hp; cases hp
    · unfold hitB at hp; rw [List.getElem?_eq_none (by omega)] at hp; exact Bool.noConfusion hp, Or.inl rfl⟩ (ceilV_least ts s r)
theorem hit_of {ts : List (Nat → Int)} {s : BitVec 32} {r i : Nat} {e : Nat → Int} (he : ts[i]? = some e) : hitB ts s r i = (hasB s (i : Int) && usesT e r) := by unfold hitB; rw [he]
theorem all_lt {p : Nat → Bool} {i : Nat} (h : ∀ j, j < i → p j = false) (hi : p i = false) : ∀ j, j < i + 1 → p j = false := fun j hj => by
  rcases Nat.lt_succ_iff_lt_or_eq.1 hj with h' | rfl
  · exact h j h'
  · exact hi

theorem rceil (x : Img) (hx : x.In K) (hn : x.tasks.l.length ≤ 16) (s : BitVec 32) (r : Nat) (hr : r < 8) : Ctr Tryd.prog B 30 [x.v, .int .u32 s.toNat, .int .i64 (r : Int)] [K] (fun v S => v = .int .i64 (ceilV x.tasks.l s r) ∧ S = [K]) := by
  refine Ctr_of_X (N := 30) Tryd.func30 rfl (by simp) rfl ?_
  intro w0 D0
  refine X_seq ?_
  refine X_region ?_
  refine XL_box .no rfl rfl rfl (fun b1 => ?_)
  refine XL_det .no (D_pure rfl) rfl ?_
  refine XL_then ?_
  refine X_seq ?_
  refine X_seq ?_
  refine X_region ?_
  refine XL_det .no (D_pure rfl) rfl ?_
  refine XL_then ?_
  refine X_block ?_
  refine X_loop (α := Nat) (fun i => i ≤ x.tasks.l.length ∧ ∀ j : Nat, j < i → hitB x.tasks.l s r j = false) (fun i => [(7, .int .i64 (i : Int)), (1, .int .u32 s.toNat), (2, .int .i64 (r : Int)), (3, .pointer (some ⟨b1, 0, none⟩))]) (fun i => [blk b1 [.int .i64 x.res, .slice x.tasks.oad x.tasks.l.length x.tasks.c, .slice x.modes.oad x.modes.l.length x.modes.c, .slice x.edges.oad x.edges.l.length x.edges.c] 26, K]) (fun i => x.tasks.l.length - i) 0 ?_ (by refine ⟨?_, ?_, ?_, ?_, trivial⟩ <;> rfl) (by repeat first | with_reducible exact .nil _ | with_reducible exact .here _ _ | with_reducible exact Take.self _ | with_reducible apply Take.cons | with_reducible apply Out.there | with_reducible apply Take.skip | with_reducible exact Take.pre _ _ | with_reducible apply Out.app) ?_
  · exact ⟨by omega, fun j hj => by omega⟩
  · rintro i ⟨hi, hq⟩
    refine X_seq ?_
    refine X_seq ?_
    refine X_region ?_
    refine XL_det .no (D_pure rfl) rfl ?_
    refine XL_det .no (D_fld rfl fld_26_1 (o' := 1) rfl) rfl ?_
    refine XL_det .no (D_ldo rfl (by repeat first | with_reducible exact .here _ _ | with_reducible apply Out.there | with_reducible apply Out.app) tk_22 (by rfl)) rfl ?_
    refine XL_det .no (D_len rfl rfl slc_22) rfl ?_
    refine XL_det .no (D_pure rfl) rfl ?_
    refine XL_then ?_
    refine X_cond rfl (fun h1 => ?_) (fun h1 => ?_)
    · try simp only [decide_eq_true_eq, decide_eq_false_iff_not, Bool.not_eq_true', Bool.not_eq_false', beq_iff_eq, bne_iff_ne, beq_eq_false_iff_ne, bne_eq_false_iff_eq, Int.not_lt, Int.not_le, gt_iff_lt, ge_iff_le, ne_eq] at h1
      obtain ⟨e, hg⟩ : ∃ e, x.tasks.l[i]? = some e := ⟨_, List.getElem?_eq_getElem (by omega)⟩
      refine X_skip ?_
      refine thenX_normal ?_
      refine X_seq ?_
      refine X_block ?_
      refine X_seq ?_
      refine X_region ?_
      refine XL_det .no (D_pure rfl) rfl ?_
      refine XL_det .no (D_pure rfl) rfl ?_
      refine XL_callv .no en_37 rfl (has s (i : Int)) rfl ?_
      refine XL_det .no (D_pure rfl) rfl ?_
      refine XL_split (t := 18) rfl (fun h2 => ?_) (fun h2 => ?_)
      · try simp only [decide_eq_true_eq, decide_eq_false_iff_not, Bool.not_eq_true', Bool.not_eq_false', beq_iff_eq, bne_iff_ne, beq_eq_false_iff_ne, bne_eq_false_iff_eq, Int.not_lt, Int.not_le, gt_iff_lt, ge_iff_le, ne_eq] at h2
        refine XL_det (.yes 18 rfl rfl rfl) (D_fld rfl fld_26_1 (o' := 1) rfl) rfl ?_
        refine XL_det (.yes 18 rfl rfl rfl) (D_ldo rfl (by repeat first | with_reducible exact .here _ _ | with_reducible apply Out.there | with_reducible apply Out.app) tk_22 (by rfl)) rfl ?_
        refine XL_det (.yes 18 rfl rfl rfl) (D_pure rfl) rfl ?_
        refine XL_det (.yes 18 rfl rfl rfl) (D_pure rfl) rfl ?_
        refine XL_det (.yes 18 rfl rfl rfl) (D_idxSo rfl rfl slc_22 (x.tasks).nil0 rfl (by omega) rfl) rfl ?_
        refine XL_det (.yes 18 rfl rfl rfl) (D_fldA rfl fld_48_3 rfl) rfl ?_
        refine XL_det (.yes 18 rfl rfl rfl) (D_idxAA (k' := i * 11 + (3 + r * 1)) rfl rfl arr_33 rfl (by omega) (Nat.add_assoc _ _ _)) rfl ?_
        refine XL_det (.yes 18 rfl rfl rfl) (D_ela (enc := encT) (sz := 11) (i := i) (k := (3 + r * 1)) (fun _ => rfl) rfl (by repeat first | with_reducible exact .here _ _ | with_reducible apply Out.there | with_reducible apply Out.app) hx.tasks tk_3 hg (encT_get (by omega))) rfl ?_
        refine XL_det (.yes 18 rfl rfl rfl) (D_pure rfl) rfl ?_
        refine XL_det .no (D_pure rfl) rfl ?_
        refine XL_then ?_
        refine X_cond rfl (fun h3 => ?_) (fun h3 => ?_)
        · try simp only [decide_eq_true_eq, decide_eq_false_iff_not, Bool.not_eq_true', Bool.not_eq_false', beq_iff_eq, bne_iff_ne, beq_eq_false_iff_ne, bne_eq_false_iff_eq, Int.not_lt, Int.not_le, gt_iff_lt, ge_iff_le, ne_eq] at h3
          refine X_seq ?_
          refine X_region ?_
          refine XL_det .no (D_pure rfl) rfl ?_
          refine XL_det .no (D_pure rfl) rfl ?_
          refine XL_then ?_
          refine X_ret ?_
          refine inBlk_ret ?_
          refine thenX_ret ?_
          refine loopQ_ret ?_
          refine inBlk_ret ?_
          refine thenX_ret ?_
          refine ret_ok (.nil _) (res_tmp rfl rfl) ?_
          exact ⟨_, ⟨by rw [ceil_hit (by omega) (by rw [hit_of hg, h2]; simp [usesT]; omega) hq], rfl⟩, _, (by repeat first | with_reducible exact .nil _ | with_reducible exact .here _ _ | with_reducible exact Take.self _ | with_reducible apply Take.cons | with_reducible apply Out.there | with_reducible apply Take.skip | with_reducible exact Take.pre _ _ | with_reducible apply Out.app)⟩
        · try simp only [decide_eq_true_eq, decide_eq_false_iff_not, Bool.not_eq_true', Bool.not_eq_false', beq_iff_eq, bne_iff_ne, beq_eq_false_iff_ne, bne_eq_false_iff_eq, Int.not_lt, Int.not_le, gt_iff_lt, ge_iff_le, ne_eq] at h3
          refine X_skip ?_
          refine inBlk_normal ?_
          refine thenX_normal ?_
          refine X_region ?_
          refine XL_det .no (D_pure rfl) rfl ?_
          refine XL_det .no (D_add rfl rfl (by omega) (by omega)) rfl ?_
          refine XL_det .no (D_pure rfl) rfl ?_
          refine XL_nil ?_
          refine loopQ_next (i + 1) ?_ ?_ ?_ ?_
          · exact ⟨by omega, all_lt hq (by rw [hit_of hg, h2]; simp [usesT]; omega)⟩
          · omega
          · refine ⟨?_, ?_, ?_, ?_, trivial⟩ <;> rfl
          · exact ⟨_, (by repeat first | with_reducible exact .nil _ | with_reducible exact .here _ _ | with_reducible exact Take.self _ | with_reducible apply Take.cons | with_reducible apply Out.there | with_reducible apply Take.skip | with_reducible exact Take.pre _ _ | with_reducible apply Out.app)⟩
      · try simp only [decide_eq_true_eq, decide_eq_false_iff_not, Bool.not_eq_true', Bool.not_eq_false', beq_iff_eq, bne_iff_ne, beq_eq_false_iff_ne, bne_eq_false_iff_eq, Int.not_lt, Int.not_le, gt_iff_lt, ge_iff_le, ne_eq] at h2
        refine XL_skip 18 rfl rfl rfl rfl rfl ?_
        refine XL_skip 18 rfl rfl rfl rfl rfl ?_
        refine XL_skip 18 rfl rfl rfl rfl rfl ?_
        refine XL_skip 18 rfl rfl rfl rfl rfl ?_
        refine XL_skip 18 rfl rfl rfl rfl rfl ?_
        refine XL_skip 18 rfl rfl rfl rfl rfl ?_
        refine XL_skip 18 rfl rfl rfl rfl rfl ?_
        refine XL_skip 18 rfl rfl rfl rfl rfl ?_
        refine XL_skip 18 rfl rfl rfl rfl rfl ?_
        refine XL_det .no (D_pure rfl) rfl ?_
        refine XL_then ?_
        refine X_cond_f rfl rfl ?_
        refine X_skip ?_
        refine inBlk_normal ?_
        refine thenX_normal ?_
        refine X_region ?_
        refine XL_det .no (D_pure rfl) rfl ?_
        refine XL_det .no (D_add rfl rfl (by omega) (by omega)) rfl ?_
        refine XL_det .no (D_pure rfl) rfl ?_
        refine XL_nil ?_
        refine loopQ_next (i + 1) ?_ ?_ ?_ ?_
        · exact ⟨by omega, all_lt hq (by rw [hit_of hg, h2]; rfl)⟩
        · omega
        · refine ⟨?_, ?_, ?_, ?_, trivial⟩ <;> rfl
        · exact ⟨_, (by repeat first | with_reducible exact .nil _ | with_reducible exact .here _ _ | with_reducible exact Take.self _ | with_reducible apply Take.cons | with_reducible apply Out.there | with_reducible apply Take.skip | with_reducible exact Take.pre _ _ | with_reducible apply Out.app)⟩
    · try simp only [decide_eq_true_eq, decide_eq_false_iff_not, Bool.not_eq_true', Bool.not_eq_false', beq_iff_eq, bne_iff_ne, beq_eq_false_iff_ne, bne_eq_false_iff_eq, Int.not_lt, Int.not_le, gt_iff_lt, ge_iff_le, ne_eq] at h1
      refine X_exit ?_
      refine thenX_exit ?_
      refine loopQ_exit ?_
      refine inBlk_here ?_
      refine thenX_normal ?_
      refine X_seq ?_
      refine X_region ?_
      refine XL_det .no (D_pure rfl) rfl ?_
      refine XL_then ?_
      refine X_ret ?_
      refine ret_ok (.nil _) (res_tmp rfl rfl) ?_
      exact ⟨_, ⟨by rw [ceil_none (by omega) hq], rfl⟩, _, (by repeat first | with_reducible exact .nil _ | with_reducible exact .here _ _ | with_reducible exact Take.self _ | with_reducible apply Take.cons | with_reducible apply Out.there | with_reducible apply Take.skip | with_reducible exact Take.pre _ _ | with_reducible apply Out.app)⟩

theorem rblock (x : Img) (hx : x.In K) (hR : RightP x) (h c : BitVec 32) (w : Nat) (hw : w < 16) : Ctr Tryd.prog B 22 [x.v, .int .u32 h.toNat, .int .u32 c.toNat, .int .i64 (w : Int)] [K] (fun v S => v = .int .i64 (blkV x.tasks.l h c w) ∧ S = [K]) := by
  refine Ctr_of_X (N := 59) Tryd.func22 rfl (by simp) rfl ?_
  intro w0 D0
  have hnt := hR.nt
  refine X_seq ?_
  refine X_region ?_
  refine XL_box .no rfl rfl rfl (fun b1 => ?_)
  refine XL_det .no (D_pure rfl) rfl ?_
  refine XL_then ?_
  refine X_seq ?_
  refine X_region ?_
  refine XL_det .no (D_pure rfl) rfl ?_
  refine XL_then ?_
  refine X_seq ?_
  refine X_seq ?_
  refine X_region ?_
  refine XL_det .no (D_pure rfl) rfl ?_
  refine XL_then ?_
  refine X_block ?_
  refine X_loop (α := Nat) (fun r => r ≤ 8) (fun r => [(10, .int .i64 (r : Int)), (9, .int .i64 (blkN x.tasks.l h c w r)), (1, .int .u32 h.toNat), (2, .int .u32 c.toNat), (3, .int .i64 (w : Int)), (4, .pointer (some ⟨b1, 0, none⟩))]) (fun r => [blk b1 [.int .i64 x.res, .slice x.tasks.oad x.tasks.l.length x.tasks.c, .slice x.modes.oad x.modes.l.length x.modes.c, .slice x.edges.oad x.edges.l.length x.edges.c] 26, K]) (fun r => 8 - r) 0 ?_ (by refine ⟨?_, ?_, ?_, ?_, ?_, ?_, trivial⟩ <;> rfl) (by repeat first | with_reducible exact .nil _ | with_reducible exact .here _ _ | with_reducible exact Take.self _ | with_reducible apply Take.cons | with_reducible apply Out.there | with_reducible apply Take.skip | with_reducible exact Take.pre _ _ | with_reducible apply Out.app) ?_
  · omega
  · rintro r hr
    have hb0 := blkN_in (h := h) (c := c) (w := w) hR.long r hr
    refine X_seq ?_
    refine X_seq ?_
    refine X_region ?_
    refine XL_det .no (D_pure rfl) rfl ?_
    refine XL_det .no (D_pure rfl) rfl ?_
    refine XL_then ?_
    refine X_cond rfl (fun h1 => ?_) (fun h1 => ?_)
    · try simp only [decide_eq_true_eq, decide_eq_false_iff_not, Bool.not_eq_true', Bool.not_eq_false', beq_iff_eq, bne_iff_ne, beq_eq_false_iff_ne, bne_eq_false_iff_eq, Int.not_lt, Int.not_le, gt_iff_lt, ge_iff_le, ne_eq] at h1
      refine X_skip ?_
      refine thenX_normal ?_
      refine X_seq ?_
      refine X_block ?_
      refine X_seq ?_
      refine X_seq ?_
      refine X_region ?_
      refine XL_det .no (D_ldso rfl (by repeat first | with_reducible exact .here _ _ | with_reducible apply Out.there | with_reducible apply Out.app) tk_26 rfl (by rfl)) rfl ?_
      refine XL_det .no (D_pure rfl) rfl ?_
      refine XL_det .no (D_pure rfl) rfl ?_
      refine XL_callk .no en_30 rfl (rceil x hx hR.nt.2 c r (by omega)) (by repeat first | with_reducible exact .nil _ | with_reducible exact .here _ _ | with_reducible exact Take.self _ | with_reducible apply Take.cons | with_reducible apply Out.there | with_reducible apply Take.skip | with_reducible exact Take.pre _ _ | with_reducible apply Out.app) rfl ?_
      refine XL_det .no (D_pure rfl) rfl ?_
      refine XL_det .no (D_pure rfl) rfl ?_
      refine XL_then ?_
      refine X_cond rfl (fun h2 => ?_) (fun h2 => ?_)
      · try simp only [decide_eq_true_eq, decide_eq_false_iff_not, Bool.not_eq_true', Bool.not_eq_false', beq_iff_eq, bne_iff_ne, beq_eq_false_iff_ne, bne_eq_false_iff_eq, Int.not_lt, Int.not_le, gt_iff_lt, ge_iff_le, ne_eq] at h2
        refine X_exit ?_
        refine thenX_exit ?_
        refine inBlk_here ?_
        refine thenX_normal ?_
        refine X_region ?_
        refine XL_det .no (D_pure rfl) rfl ?_
        refine XL_det .no (D_add rfl rfl (by omega) (by omega)) rfl ?_
        refine XL_det .no (D_pure rfl) rfl ?_
        refine XL_nil ?_
        refine loopQ_next (r + 1) ?_ ?_ ?_ ?_
        · omega
        · omega
        · refine ⟨?_, ?_, ?_, ?_, ?_, ?_, trivial⟩ <;> first | rfl | (refine congrArg (fun z => some (Value.int .i64 z)) ?_; rw [blkN_s, if_pos (by omega)]; omega)
        · exact ⟨_, (by repeat first | with_reducible exact .nil _ | with_reducible exact .here _ _ | with_reducible exact Take.self _ | with_reducible apply Take.cons | with_reducible apply Out.there | with_reducible apply Take.skip | with_reducible exact Take.pre _ _ | with_reducible apply Out.app)⟩
      · try simp only [decide_eq_true_eq, decide_eq_false_iff_not, Bool.not_eq_true', Bool.not_eq_false', beq_iff_eq, bne_iff_ne, beq_eq_false_iff_ne, bne_eq_false_iff_eq, Int.not_lt, Int.not_le, gt_iff_lt, ge_iff_le, ne_eq] at h2
        refine X_skip ?_
        refine thenX_normal ?_
        refine X_seq ?_
        refine X_region ?_
        refine XL_det .no (D_pure rfl) rfl ?_
        refine XL_then ?_
        refine X_seq ?_
        refine X_seq ?_
        refine X_region ?_
        refine XL_det .no (D_pure rfl) rfl ?_
        refine XL_det .no (D_add rfl rfl (by omega) (by omega)) rfl ?_
        refine XL_det .no (D_pure rfl) rfl ?_
        refine XL_then ?_
        refine X_block ?_
        refine X_loop (α := Nat) (fun k => w + 1 ≤ k ∧ k ≤ 17) (fun k => [(12, .int .i64 (k : Int)), (11, .int .i64 (longN x.tasks.l h w r k)), (1, .int .u32 h.toNat), (2, .int .u32 c.toNat), (3, .int .i64 (w : Int)), (4, .pointer (some ⟨b1, 0, none⟩)), (9, .int .i64 (blkN x.tasks.l h c w r)), (10, .int .i64 (r : Int))]) (fun k => [blk b1 [.int .i64 x.res, .slice x.tasks.oad x.tasks.l.length x.tasks.c, .slice x.modes.oad x.modes.l.length x.modes.c, .slice x.edges.oad x.edges.l.length x.edges.c] 26, K]) (fun k => 17 - k) (w + 1) ?_ (by refine ⟨?_, ?_, ?_, ?_, ?_, ?_, ?_, ?_, trivial⟩ <;> first | rfl | (refine congrArg (fun z => some (Value.int .i64 z)) ?_; rw [longN_lo (by omega)])) (by repeat first | with_reducible exact .nil _ | with_reducible exact .here _ _ | with_reducible exact Take.self _ | with_reducible apply Take.cons | with_reducible apply Out.there | with_reducible apply Take.skip | with_reducible exact Take.pre _ _ | with_reducible apply Out.app) ?_
        · omega
        · rintro k ⟨hk, hk17⟩
          refine X_seq ?_
          refine X_seq ?_
          refine X_region ?_
          refine XL_det .no (D_pure rfl) rfl ?_
          refine XL_det .no (D_fld rfl fld_26_1 (o' := 1) rfl) rfl ?_
          refine XL_det .no (D_ldo rfl (by repeat first | with_reducible exact .here _ _ | with_reducible apply Out.there | with_reducible apply Out.app) tk_22 (by rfl)) rfl ?_
          refine XL_det .no (D_len rfl rfl slc_22) rfl ?_
          refine XL_det .no (D_pure rfl) rfl ?_
          refine XL_then ?_
          refine X_cond rfl (fun h3 => ?_) (fun h3 => ?_)
          · try simp only [decide_eq_true_eq, decide_eq_false_iff_not, Bool.not_eq_true', Bool.not_eq_false', beq_iff_eq, bne_iff_ne, beq_eq_false_iff_ne, bne_eq_false_iff_eq, Int.not_lt, Int.not_le, gt_iff_lt, ge_iff_le, ne_eq] at h3
            obtain ⟨e, hg⟩ : ∃ e, x.tasks.l[k]? = some e := ⟨_, List.getElem?_eq_getElem (by omega)⟩
            refine X_skip ?_
            refine thenX_normal ?_
            refine X_seq ?_
            refine X_block ?_
            refine X_seq ?_
            refine X_region ?_
            refine XL_det .no (D_pure rfl) rfl ?_
            refine XL_det .no (D_pure rfl) rfl ?_
            refine XL_callv .no en_37 rfl (has h (k : Int)) rfl ?_
            refine XL_det .no (D_pure rfl) rfl ?_
            refine XL_split (t := 35) rfl (fun h4 => ?_) (fun h4 => ?_)
            · try simp only [decide_eq_true_eq, decide_eq_false_iff_not, Bool.not_eq_true', Bool.not_eq_false', beq_iff_eq, bne_iff_ne, beq_eq_false_iff_ne, bne_eq_false_iff_eq, Int.not_lt, Int.not_le, gt_iff_lt, ge_iff_le, ne_eq] at h4
              refine XL_det (.yes 35 rfl rfl rfl) (D_fld rfl fld_26_1 (o' := 1) rfl) rfl ?_
              refine XL_det (.yes 35 rfl rfl rfl) (D_ldo rfl (by repeat first | with_reducible exact .here _ _ | with_reducible apply Out.there | with_reducible apply Out.app) tk_22 (by rfl)) rfl ?_
              refine XL_det (.yes 35 rfl rfl rfl) (D_pure rfl) rfl ?_
              refine XL_det (.yes 35 rfl rfl rfl) (D_pure rfl) rfl ?_
              refine XL_det (.yes 35 rfl rfl rfl) (D_idxSo rfl rfl slc_22 (x.tasks).nil0 rfl (by omega) rfl) rfl ?_
              refine XL_det (.yes 35 rfl rfl rfl) (D_fldA rfl fld_48_3 rfl) rfl ?_
              refine XL_det (.yes 35 rfl rfl rfl) (D_idxAA (k' := k * 11 + (3 + r * 1)) rfl rfl arr_33 rfl (by omega) (Nat.add_assoc _ _ _)) rfl ?_
              refine XL_det (.yes 35 rfl rfl rfl) (D_ela (enc := encT) (sz := 11) (i := k) (k := (3 + r * 1)) (fun _ => rfl) rfl (by repeat first | with_reducible exact .here _ _ | with_reducible apply Out.there | with_reducible apply Out.app) hx.tasks tk_3 hg (encT_get (by omega))) rfl ?_
              refine XL_det (.yes 35 rfl rfl rfl) (D_pure rfl) rfl ?_
              refine XL_det (.yes 35 rfl rfl rfl) (D_pure rfl) rfl ?_
              refine XL_det .no (D_pure rfl) rfl ?_
              refine XL_then ?_
              refine X_cond rfl (fun h5 => ?_) (fun h5 => ?_)
              · try simp only [decide_eq_true_eq, decide_eq_false_iff_not, Bool.not_eq_true', Bool.not_eq_false', beq_iff_eq, bne_iff_ne, beq_eq_false_iff_ne, bne_eq_false_iff_eq, Int.not_lt, Int.not_le, gt_iff_lt, ge_iff_le, ne_eq] at h5
                refine X_region ?_
                refine XL_det .no (D_fld rfl fld_26_1 (o' := 1) rfl) rfl ?_
                refine XL_det .no (D_ldo rfl (by repeat first | with_reducible exact .here _ _ | with_reducible apply Out.there | with_reducible apply Out.app) tk_22 (by rfl)) rfl ?_
                refine XL_det .no (D_pure rfl) rfl ?_
                refine XL_det .no (D_pure rfl) rfl ?_
                refine XL_det .no (D_idxSo rfl rfl slc_22 (x.tasks).nil0 rfl (by omega) rfl) rfl ?_
                refine XL_det .no (D_fldA rfl fld_48_3 rfl) rfl ?_
                refine XL_det .no (D_idxAA (k' := k * 11 + (3 + r * 1)) rfl rfl arr_33 rfl (by omega) (Nat.add_assoc _ _ _)) rfl ?_
                refine XL_det .no (D_ela (enc := encT) (sz := 11) (i := k) (k := (3 + r * 1)) (fun _ => rfl) rfl (by repeat first | with_reducible exact .here _ _ | with_reducible apply Out.there | with_reducible apply Out.app) hx.tasks tk_3 hg (encT_get (by omega))) rfl ?_
                refine XL_det .no (D_pure rfl) rfl ?_
                refine XL_nil ?_
                refine inBlk_normal ?_
                refine thenX_normal ?_
                refine X_region ?_
                refine XL_det .no (D_pure rfl) rfl ?_
                refine XL_det .no (D_add rfl rfl (by omega) (by omega)) rfl ?_
                refine XL_det .no (D_pure rfl) rfl ?_
                refine XL_nil ?_
                refine loopQ_next (k + 1) ?_ ?_ ?_ ?_
                · omega
                · omega
                · refine ⟨?_, ?_, ?_, ?_, ?_, ?_, ?_, ?_, trivial⟩ <;> first | rfl | (refine congrArg (fun z => some (Value.int .i64 z)) ?_; rw [longN_s hg, if_pos ⟨by omega, h4, by omega⟩])
                · exact ⟨_, (by repeat first | with_reducible exact .nil _ | with_reducible exact .here _ _ | with_reducible exact Take.self _ | with_reducible apply Take.cons | with_reducible apply Out.there | with_reducible apply Take.skip | with_reducible exact Take.pre _ _ | with_reducible apply Out.app)⟩
              · try simp only [decide_eq_true_eq, decide_eq_false_iff_not, Bool.not_eq_true', Bool.not_eq_false', beq_iff_eq, bne_iff_ne, beq_eq_false_iff_ne, bne_eq_false_iff_eq, Int.not_lt, Int.not_le, gt_iff_lt, ge_iff_le, ne_eq] at h5
                refine X_skip ?_
                refine inBlk_normal ?_
                refine thenX_normal ?_
                refine X_region ?_
                refine XL_det .no (D_pure rfl) rfl ?_
                refine XL_det .no (D_add rfl rfl (by omega) (by omega)) rfl ?_
                refine XL_det .no (D_pure rfl) rfl ?_
                refine XL_nil ?_
                refine loopQ_next (k + 1) ?_ ?_ ?_ ?_
                · omega
                · omega
                · refine ⟨?_, ?_, ?_, ?_, ?_, ?_, ?_, ?_, trivial⟩ <;> first | rfl | (refine congrArg (fun z => some (Value.int .i64 z)) ?_; rw [longN_s hg, if_neg (fun q => absurd q.2.2 (by omega))])
                · exact ⟨_, (by repeat first | with_reducible exact .nil _ | with_reducible exact .here _ _ | with_reducible exact Take.self _ | with_reducible apply Take.cons | with_reducible apply Out.there | with_reducible apply Take.skip | with_reducible exact Take.pre _ _ | with_reducible apply Out.app)⟩
            · try simp only [decide_eq_true_eq, decide_eq_false_iff_not, Bool.not_eq_true', Bool.not_eq_false', beq_iff_eq, bne_iff_ne, beq_eq_false_iff_ne, bne_eq_false_iff_eq, Int.not_lt, Int.not_le, gt_iff_lt, ge_iff_le, ne_eq] at h4
              refine XL_skip 35 rfl rfl rfl rfl rfl ?_
              refine XL_skip 35 rfl rfl rfl rfl rfl ?_
              refine XL_skip 35 rfl rfl rfl rfl rfl ?_
              refine XL_skip 35 rfl rfl rfl rfl rfl ?_
              refine XL_skip 35 rfl rfl rfl rfl rfl ?_
              refine XL_skip 35 rfl rfl rfl rfl rfl ?_
              refine XL_skip 35 rfl rfl rfl rfl rfl ?_
              refine XL_skip 35 rfl rfl rfl rfl rfl ?_
              refine XL_skip 35 rfl rfl rfl rfl rfl ?_
              refine XL_skip 35 rfl rfl rfl rfl rfl ?_
              refine XL_det .no (D_pure rfl) rfl ?_
              refine XL_then ?_
              refine X_cond_f rfl rfl ?_
              refine X_skip ?_
              refine inBlk_normal ?_
              refine thenX_normal ?_
              refine X_region ?_
              refine XL_det .no (D_pure rfl) rfl ?_
              refine XL_det .no (D_add rfl rfl (by omega) (by omega)) rfl ?_
              refine XL_det .no (D_pure rfl) rfl ?_
              refine XL_nil ?_
              refine loopQ_next (k + 1) ?_ ?_ ?_ ?_
              · omega
              · omega
              · refine ⟨?_, ?_, ?_, ?_, ?_, ?_, ?_, ?_, trivial⟩ <;> first | rfl | (refine congrArg (fun z => some (Value.int .i64 z)) ?_; rw [longN_s hg, if_neg (fun q => by rw [h4] at q; exact absurd q.2.1 (by decide))])
              · exact ⟨_, (by repeat first | with_reducible exact .nil _ | with_reducible exact .here _ _ | with_reducible exact Take.self _ | with_reducible apply Take.cons | with_reducible apply Out.there | with_reducible apply Take.skip | with_reducible exact Take.pre _ _ | with_reducible apply Out.app)⟩
          · try simp only [decide_eq_true_eq, decide_eq_false_iff_not, Bool.not_eq_true', Bool.not_eq_false', beq_iff_eq, bne_iff_ne, beq_eq_false_iff_ne, bne_eq_false_iff_eq, Int.not_lt, Int.not_le, gt_iff_lt, ge_iff_le, ne_eq] at h3
            have hlk := longN_in (h := h) (w := w) (r := r) (fun e he => hR.long e he r (by omega)) k
            refine X_exit ?_
            refine thenX_exit ?_
            refine loopQ_exit ?_
            refine inBlk_here ?_
            refine thenX_normal ?_
            refine X_region ?_
            refine XL_det .no (D_pure rfl) rfl ?_
            refine XL_det .no (D_pure rfl) rfl ?_
            refine XL_det .no (D_add rfl rfl (by omega) (by omega)) rfl ?_
            refine XL_det .no (D_pure rfl) rfl ?_
            refine XL_nil ?_
            refine inBlk_normal ?_
            refine thenX_normal ?_
            refine X_region ?_
            refine XL_det .no (D_pure rfl) rfl ?_
            refine XL_det .no (D_add rfl rfl (by omega) (by omega)) rfl ?_
            refine XL_det .no (D_pure rfl) rfl ?_
            refine XL_nil ?_
            refine loopQ_next (r + 1) ?_ ?_ ?_ ?_
            · omega
            · omega
            · refine ⟨?_, ?_, ?_, ?_, ?_, ?_, trivial⟩ <;> first | rfl | (refine congrArg (fun z => some (Value.int .i64 z)) ?_; rw [blkN_s, if_neg (by omega), longN_hi (by omega)])
            · exact ⟨_, (by repeat first | with_reducible exact .nil _ | with_reducible exact .here _ _ | with_reducible exact Take.self _ | with_reducible apply Take.cons | with_reducible apply Out.there | with_reducible apply Take.skip | with_reducible exact Take.pre _ _ | with_reducible apply Out.app)⟩
    · try simp only [decide_eq_true_eq, decide_eq_false_iff_not, Bool.not_eq_true', Bool.not_eq_false', beq_iff_eq, bne_iff_ne, beq_eq_false_iff_ne, bne_eq_false_iff_eq, Int.not_lt, Int.not_le, gt_iff_lt, ge_iff_le, ne_eq] at h1
      refine X_exit ?_
      refine thenX_exit ?_
      refine loopQ_exit ?_
      refine inBlk_here ?_
      refine thenX_normal ?_
      refine X_seq ?_
      refine X_region ?_
      refine XL_det .no (D_pure rfl) rfl ?_
      refine XL_det .no (D_pure rfl) rfl ?_
      refine XL_then ?_
      refine X_ret ?_
      refine ret_ok (.nil _) (res_tmp rfl rfl) ?_
      exact ⟨_, ⟨by rw [show r = 8 by omega], rfl⟩, _, (by repeat first | with_reducible exact .nil _ | with_reducible exact .here _ _ | with_reducible exact Take.self _ | with_reducible apply Take.cons | with_reducible apply Out.there | with_reducible apply Take.skip | with_reducible exact Take.pre _ _ | with_reducible apply Out.app)⟩

end Go.Proofs.YtkkdchgnknpceaaDoor
end

section
namespace Go.Proofs.YtkkdchgnknpceaaDoor
open Go Go.Sl
set_option linter.unusedVariables false
set_option linter.unusedSimpArgs false
set_option maxRecDepth 4000
variable {B : Nat} {K : Asrt B}
theorem bld_48 : bldOf Tryd.prog 48 = some ([.int .i64 0, .int .i64 0, .int .i64 0, .int .i64 0, .int .i64 0, .int .i64 0, .int .i64 0, .int .i64 0, .int .i64 0, .int .i64 0, .int .i64 0], [(0, 1), (1, 1), (2, 1), (3, 8)]) := by kernel_rfl
theorem en_12 : Go.Proofs.Enters Tryd.prog 12 := Go.Proofs.enters_of Tryd.func12 (by kernel_rfl) rfl
theorem en_15 : Go.Proofs.Enters Tryd.prog 15 := Go.Proofs.enters_of Tryd.func15 (by kernel_rfl) rfl
theorem en_16 : Go.Proofs.Enters Tryd.prog 16 := Go.Proofs.enters_of Tryd.func16 (by kernel_rfl) rfl
theorem en_17 : Go.Proofs.Enters Tryd.prog 17 := Go.Proofs.enters_of Tryd.func17 (by kernel_rfl) rfl
theorem en_20 : Go.Proofs.Enters Tryd.prog 20 := Go.Proofs.enters_of Tryd.func20 (by kernel_rfl) rfl
theorem en_61 : Go.Proofs.Enters Tryd.prog 61 := Go.Proofs.enters_of Tryd.func61 (by kernel_rfl) rfl
theorem fld_53_0 : fldOff Tryd.prog 53 0 = some 0 := by kernel_rfl
theorem ptr_30 : isPtrT Tryd.prog 30 = true := by kernel_rfl
theorem zero_48 : zeroOf Tryd.prog 48 = some [.int .i64 0, .int .i64 0, .int .i64 0, .int .i64 0, .int .i64 0, .int .i64 0, .int .i64 0, .int .i64 0, .int .i64 0, .int .i64 0, .int .i64 0] := by kernel_rfl

theorem cr0_no (m : Nat) : ¬ cr0.L m := fun hm => by
  have hm : hasB 0#32 (m : Int) = true := hm
  simp [hasB] at hm
/-- The chapter's example. -/
def TE26 : Nat → Int := fun k => [10, 10, 2, 0, 0, 0, 0, 0, 0, 0, 0].getD k 0
abbrev J26 (id rel : Int) (a : Arr Sec) : JC := ⟨id, rel, rel + 10, 2, 0, a⟩
theorem te26 (j : Nat) (h : j < 8) : TE26 (3 + j) = 0 := by
  rcases (by omega : j = 0 ∨ j = 1 ∨ j = 2 ∨ j = 3 ∨ j = 4 ∨ j = 5 ∨ j = 6 ∨ j = 7) with rfl | rfl | rfl | rfl | rfl | rfl | rfl | rfl <;> rfl
theorem sys26_0 : Sys [TE26, TE26] (fun _ => True) cr0 :=
  ⟨cr0_ok, fun m hm => absurd hm (cr0_no m), fun m _ hm => absurd hm (cr0_no m), fun k e _ he r hr hu => by
    exfalso
    have : e = TE26 := by
      have := List.mem_of_getElem? he
      simpa using this
    rw [this, te26 r hr] at hu; exact absurd hu (by decide), fun p _ hp => absurd hp (cr0_no p)⟩
theorem rel26 {s : Cr} {id : Nat} {rel : Int} {x a : Arr Sec} (h : Sys [TE26, TE26] (fun _ => True) s) (hid : id < 2) (hr : rel = s.now) (hx : x.l = []) (ha : a.l = x.l) (ho : a.Own) (hn : ¬ s.L id) (hnow : s.now ≤ 1000) :
    relErr s (J26 id rel x) = 0 ∧ Sys [TE26, TE26] (fun _ => True) (relC s (J26 id rel x) a) ∧ Came s (relC s (J26 id rel x) a) id (J26 id rel a) := by
  have h0 := h.ok.now
  have he : relErr s (J26 id rel x) = 0 := rel_0 (by show ¬ ((id : Int) < 0 ∨ (id : Int) ≥ 16 ∨ (0 : Int) ≥ 2); omega) (by
    cases hc : hasB s.live (id : Int) with
    | false => rfl
    | true => exact absurd hc hn)
  have ok : COk (relC s (J26 id rel x) a) := rel_ok h.ok ho ha (fun k hk hk16 => ⟨hk16, hk, by show (0 : Int) ≤ 0; omega, by show (0 : Int) ≤ 100000000; omega, by show (0 : Int) ≤ 2; omega, by show (2 : Int) ≤ 100000000; omega, by show -1000000000 ≤ rel; omega, by show rel ≤ 1000000000; omega⟩)
  obtain ⟨c, _⟩ := rel_came (a := a) (k := id) (show (J26 id rel x).id = id from rfl) he
  refine ⟨he, h.came ok c trivial (e := TE26) ?_ rfl (by show (0 : Int) < 2; omega) (by show okL _ _ _ a.l; rw [ha, hx]; exact trivial) (by show (2 : Int) ≤ 2; omega) rfl (by show rel ≤ _; omega), c⟩
  rcases (by omega : id = 0 ∨ id = 1) with rfl | rfl <;> rfl
theorem al26 {x a : Arr Sec} (hx : x.l = []) (ha : a.l = x.l) (ho : a.Own) : relErr cr0 (J26 1 0 x) = 0 ∧ COk (relC cr0 (J26 1 0 x) a) ∧ (tickC (relC cr0 (J26 1 0 x) a)).2.task = 1 ∧ (tickC (relC cr0 (J26 1 0 x) a)).2.over = false ∧ COk (tickC (relC cr0 (J26 1 0 x) a)).1 ∧
    ∀ y b : Arr Sec, y.l = [] → b.l = y.l → b.Own → relErr (tickC (relC cr0 (J26 1 0 x) a)).1 (J26 0 1 y) = 0 ∧ COk (relC (tickC (relC cr0 (J26 1 0 x) a)).1 (J26 0 1 y) b) ∧ firstR (relC (tickC (relC cr0 (J26 1 0 x) a)).1 (J26 0 1 y) b).r = (0, true) ∧ (relC (tickC (relC cr0 (J26 1 0 x) a)).1 (J26 0 1 y) b).now = 1 := by
  obtain ⟨e1, h1, c1⟩ := rel26 (id := 1) (rel := 0) sys26_0 (by decide) rfl hx ha ho (cr0_no 1) (by show (0 : Int) ≤ 1000; omega)
  have e1 : relErr cr0 (J26 1 0 x) = 0 := e1
  have h1 : Sys [TE26, TE26] (fun _ => True) (relC cr0 (J26 1 0 x) a) := h1
  have c1 : Came cr0 (relC cr0 (J26 1 0 x) a) 1 (J26 1 0 a) := c1
  revert h1 c1
  generalize relC cr0 (J26 1 0 x) a = s1
  intro h1 c1
  have now1 : s1.now = 0 := c1.now
  have j1 : s1.jf 1 = J26 1 0 a := by rw [c1.jf, upd_same]
  have l1 : ∀ m, s1.L m ↔ m = 1 := fun m => by rw [c1.live m]; exact ⟨fun q => q.resolve_left (cr0_no m), .inr⟩
  obtain ⟨h2, k, t2, o2⟩ : Sys [TE26, TE26] (fun _ => True) (tickC s1).1 ∧ ∃ k, Ticked s1 (tickC s1).1 k ∧ Told s1 k (tickC s1).2 := by
    obtain ⟨h2, ⟨k, q⟩ | ⟨q, _⟩⟩ := h1.tick_or (by omega)
    · exact ⟨h2, k, q⟩
    · exact absurd ((l1 1).2 rfl) (q 1)
  have hk : k = 1 := (l1 k).1 t2.g.l
  subst hk
  refine ⟨e1, h1.ok, o2.task, by rw [o2.over, j1]; rfl, h2.ok, ?_⟩
  revert h2 t2
  generalize (tickC s1).1 = s2
  intro h2 t2 y b hy hb hbo
  have now2 : s2.now = 1 := by rw [t2.now, now1]; rfl
  have l2 : ∀ m, s2.L m ↔ m = 1 := fun m => by
    rw [t2.live m, l1 m]
    exact ⟨fun q => q.1, fun q => ⟨q, fun _ => by rw [j1]; show (0 : Int) + 1 < 2; omega⟩⟩
  obtain ⟨e3, h3, c3⟩ := rel26 (id := 0) (rel := 1) h2 (by decide) now2.symm hy hb hbo (fun q => absurd ((l2 0).1 q) (by decide)) (by omega)
  have e3 : relErr s2 (J26 0 1 y) = 0 := e3
  have h3 : Sys [TE26, TE26] (fun _ => True) (relC s2 (J26 0 1 y) b) := h3
  have c3 : Came s2 (relC s2 (J26 0 1 y) b) 0 (J26 0 1 b) := c3
  refine ⟨e3, h3.ok, ?_, by rw [c3.now, now2]⟩
  revert h3 c3
  generalize relC s2 (J26 0 1 y) b = s3
  intro h3 c3
  have l3 : ∀ m, s3.L m ↔ m = 1 ∨ m = 0 := fun m => by rw [c3.live m, l2 m]
  rcases goes_or h3.ok with ⟨k, g⟩ | ⟨_, q⟩
  · have hk : k = 0 := by
      rcases (l3 k).1 g.l with rfl | rfl
      · exfalso
        have hh : s3.H 1 < 0 := by
          show hold (s3.jf 1).secs.l _ < 0
          rw [c3.jne (by decide), t2.jk, j1]
          show hold a.l _ < 0
          rw [ha, hx]; exact (by decide : (-1 : Int) < 0)
        have := (g.free h3.ok hh ((l3 0).2 (.inr rfl))).2
        omega
      · rfl
    subst hk
    exact Prod.ext g.f2 g.f1
  · exact absurd ((l3 1).2 (.inl rfl)) (q 1)

theorem alive26 (hK : Rd K ⟨0, 0, none⟩ (tab32.map fun m => .int .u8 m)) : Ctr Tryd.prog B 23 [] [K] (fun v S => v = .bool true ∧ S = [K]) := by
  refine Ctr_of_X (N := 55) Tryd.func23 rfl (by simp) rfl ?_
  intro w0 D0
  refine X_seq ?_
  refine X_region ?_
  refine XL_det .no (D_pure rfl) rfl ?_
  refine XL_then ?_
  refine X_seq ?_
  refine X_region ?_
  refine XL_call .no en_12 rfl (snew) (by repeat first | with_reducible exact .nil _ | with_reducible exact .here _ _ | with_reducible exact Take.self _ | with_reducible apply Take.cons | with_reducible apply Out.there | with_reducible apply Take.skip | with_reducible exact Take.pre _ _ | with_reducible apply Out.app) rfl ?_
  rintro _ _ ⟨c, rfl, rfl⟩
  simp only [List.cons_append, List.nil_append]
  refine XL_det .no (D_pure rfl) rfl ?_
  refine XL_then ?_
  refine X_seq ?_
  refine X_seq ?_
  refine X_region ?_
  refine XL_det .no (D_pure rfl) rfl ?_
  refine XL_det .no (D_ptrnil rfl rfl ptr_30 rfl) rfl ?_
  refine XL_then ?_
  refine X_cond_f rfl rfl ?_
  refine X_skip ?_
  refine thenX_normal ?_
  refine X_seq ?_
  refine X_region ?_
  refine XL_det .no (D_build [_, _, _, _, _, _, _, _, _, _, _] rfl bld_48 (by rfl)) rfl ?_
  refine XL_alloc .no zero_48 rfl (fun b1 => ?_)
  refine XL_efd .no (F_stw rfl rfl rfl (by repeat first | with_reducible exact .here _ _ | with_reducible apply Out.there | with_reducible apply Out.app) tk_48 rfl rfl) ?_
  refine XL_then ?_
  refine X_seq ?_
  refine X_region ?_
  refine XL_det .no (D_pure rfl) rfl ?_
  refine XL_det .no (D_ldso (vs := encT TE26) rfl (by repeat first | with_reducible exact .here _ _ | with_reducible apply Out.there | with_reducible apply Out.app) tk_48 rfl (by rfl)) rfl ?_
  refine XL_call .no en_16 rfl (jnew 1 0 TE26 2 (Arr.emp : Arr Sec) (fun _ _ _ k hk => by simp [Arr.emp] at hk) (fun j hj => by rw [te26 j hj]; omega) (by decide) (by decide) (by decide)) (by repeat first | with_reducible exact .nil _ | with_reducible exact .here _ _ | with_reducible exact Take.self _ | with_reducible apply Take.cons | with_reducible apply Out.there | with_reducible apply Take.skip | with_reducible exact Take.pre _ _ | with_reducible apply Out.app) rfl ?_
  rintro _ _ ⟨xa, ⟨hxa, hxao⟩, rfl, rfl⟩
  simp only [List.cons_append, List.nil_append]
  replace hxa : xa.l = [] := hxa
  refine XL_call .no en_15 rfl (srelease c cr0 (Kj := row (.slice xa.oad xa.l.length xa.c) 123 3 xa.l.length (xa.l.flatMap encS)) (J26 1 0 xa) (Rd_own hxao rfl) hxao (by show xa.l.length ≤ 1000; rw [hxa]; decide) cr0_ok hK) (by repeat first | with_reducible exact .nil _ | with_reducible exact .here _ _ | with_reducible exact Take.self _ | with_reducible apply Take.cons | with_reducible apply Out.there | with_reducible apply Take.skip | with_reducible exact Take.pre _ _ | with_reducible apply Out.app) rfl ?_
  rintro _ _ ⟨a, ⟨ha, hao, rfl⟩, rfl⟩
  simp only [List.cons_append, List.nil_append]
  obtain ⟨er1, ok1, tk1, ov1, ok2, al3⟩ := al26 (x := xa) (a := a) hxa ha hao
  rw [er1]
  refine XL_det .no (D_pure rfl) rfl ?_
  refine XL_then ?_
  refine X_seq ?_
  refine X_region ?_
  refine XL_det .no (D_pure rfl) rfl ?_
  refine XL_call .no en_20 rfl (stick c (relC cr0 (J26 1 0 xa) a) ok1 hK) (by repeat first | with_reducible exact .nil _ | with_reducible exact .here _ _ | with_reducible exact Take.self _ | with_reducible apply Take.cons | with_reducible apply Out.there | with_reducible apply Take.skip | with_reducible exact Take.pre _ _ | with_reducible apply Out.app) rfl ?_
  rintro _ _ ⟨rfl, rfl⟩
  simp only [List.cons_append, List.nil_append]
  refine XL_alloc .no zero_53 rfl (fun b2 => ?_)
  refine XL_efd .no (F_stw rfl rfl rfl (by repeat first | with_reducible exact .here _ _ | with_reducible apply Out.there | with_reducible apply Out.app) tk_53 rfl rfl) ?_
  refine XL_then ?_
  refine X_seq ?_
  refine X_region ?_
  refine XL_det .no (D_pure rfl) rfl ?_
  refine XL_det .no (D_ldso (vs := encT TE26) rfl (by repeat first | with_reducible exact .here _ _ | with_reducible apply Out.there | with_reducible apply Out.app) tk_48 rfl (by rfl)) rfl ?_
  refine XL_call .no en_16 rfl (jnew 0 1 TE26 2 (Arr.emp : Arr Sec) (fun _ _ _ k hk => by simp [Arr.emp] at hk) (fun j hj => by rw [te26 j hj]; omega) (by decide) (by decide) (by decide)) (by repeat first | with_reducible exact .nil _ | with_reducible exact .here _ _ | with_reducible exact Take.self _ | with_reducible apply Take.cons | with_reducible apply Out.there | with_reducible apply Take.skip | with_reducible exact Take.pre _ _ | with_reducible apply Out.app) rfl ?_
  rintro _ _ ⟨xb, ⟨hxb, hxbo⟩, rfl, rfl⟩
  simp only [List.cons_append, List.nil_append]
  replace hxb : xb.l = [] := hxb
  refine XL_call .no en_15 rfl (srelease c (tickC (relC cr0 (J26 1 0 xa) a)).1 (Kj := row (.slice xb.oad xb.l.length xb.c) 123 3 xb.l.length (xb.l.flatMap encS)) (J26 0 1 xb) (Rd_own hxbo rfl) hxbo (by show xb.l.length ≤ 1000; rw [hxb]; decide) ok2 hK) (by repeat first | with_reducible exact .nil _ | with_reducible exact .here _ _ | with_reducible exact Take.self _ | with_reducible apply Take.cons | with_reducible apply Out.there | with_reducible apply Take.skip | with_reducible exact Take.pre _ _ | with_reducible apply Out.app) rfl ?_
  rintro _ _ ⟨b, ⟨hb, hbo, rfl⟩, rfl⟩
  simp only [List.cons_append, List.nil_append]
  obtain ⟨er2, ok3, ft3, nw3⟩ := al3 xb b hxb hb hbo
  rw [er2]
  refine XL_det .no (D_pure rfl) rfl ?_
  refine XL_then ?_
  refine X_seq ?_
  refine X_region ?_
  refine XL_det .no (D_pure rfl) rfl ?_
  refine XL_call .no en_61 rfl (snext c (relC (tickC (relC cr0 (J26 1 0 xa) a)).1 (J26 0 1 xb) b) ok3 hK) (by repeat first | with_reducible exact .nil _ | with_reducible exact .here _ _ | with_reducible exact Take.self _ | with_reducible apply Take.cons | with_reducible apply Out.there | with_reducible apply Take.skip | with_reducible exact Take.pre _ _ | with_reducible apply Out.app) rfl ?_
  rintro _ _ ⟨rfl, rfl⟩
  simp only [List.cons_append, List.nil_append]
  rw [ft3]
  refine XL_det .no (D_pure rfl) rfl ?_
  refine XL_det .no (D_pure (v := .int .i64 0) rfl) rfl ?_
  refine XL_det .no (D_pure (v := .bool true) rfl) rfl ?_
  refine XL_det .no (D_pure rfl) rfl ?_
  refine XL_det .no (D_pure rfl) rfl ?_
  refine XL_then ?_
  refine X_seq ?_
  refine X_region ?_
  refine XL_det .no (D_pure rfl) rfl ?_
  refine XL_det .no (D_pure (v := .bool true) rfl) rfl ?_
  refine XL_det .no (D_pure rfl) rfl ?_
  refine XL_det (.yes 29 rfl rfl rfl) (D_pure rfl) rfl ?_
  refine XL_det (.yes 29 rfl rfl rfl) (D_pure (v := .bool true) rfl) rfl ?_
  refine XL_det .no (D_pure rfl) rfl ?_
  refine XL_det .no (D_pure rfl) rfl ?_
  refine XL_det (.yes 33 rfl rfl rfl) (D_fld rfl fld_53_0 (o' := 0) rfl) rfl ?_
  refine XL_det (.yes 33 rfl rfl rfl) (D_ldo (v := .int .i64 1) rfl (by repeat first | with_reducible exact .here _ _ | with_reducible apply Out.there | with_reducible apply Out.app) tk_3 (by show some (Value.int .i64 (tickC (relC cr0 (J26 1 0 xa) a)).2.task) = _; rw [tk1])) rfl ?_
  refine XL_det (.yes 33 rfl rfl rfl) (D_pure (v := .bool true) rfl) rfl ?_
  refine XL_det .no (D_pure rfl) rfl ?_
  refine XL_det .no (D_pure rfl) rfl ?_
  refine XL_det (.yes 38 rfl rfl rfl) (D_fld rfl fld_53_3 (o' := 3) rfl) rfl ?_
  refine XL_det (.yes 38 rfl rfl rfl) (D_ldo (v := .bool false) rfl (by repeat first | with_reducible exact .here _ _ | with_reducible apply Out.there | with_reducible apply Out.app) tk_4 (by show some (Value.bool (tickC (relC cr0 (J26 1 0 xa) a)).2.over) = _; rw [ov1])) rfl ?_
  refine XL_det (.yes 38 rfl rfl rfl) (D_pure (v := .bool true) rfl) rfl ?_
  refine XL_det .no (D_pure rfl) rfl ?_
  refine XL_det .no (D_pure rfl) rfl ?_
  refine XL_det (.yes 43 rfl rfl rfl) (D_pure rfl) rfl ?_
  refine XL_det (.yes 43 rfl rfl rfl) (D_pure (v := .bool true) rfl) rfl ?_
  refine XL_det .no (D_pure rfl) rfl ?_
  refine XL_det .no (D_pure rfl) rfl ?_
  refine XL_det (.yes 47 rfl rfl rfl) (D_pure (v := .bool true) rfl) rfl ?_
  refine XL_det .no (D_pure rfl) rfl ?_
  refine XL_det .no (D_pure rfl) rfl ?_
  refine XL_det (.yes 50 rfl rfl rfl) (D_pure rfl) rfl ?_
  refine XL_call (.yes 50 rfl rfl rfl) en_17 rfl (snow c (relC (tickC (relC cr0 (J26 1 0 xa) a)).1 (J26 0 1 xb) b)) (by repeat first | with_reducible exact .nil _ | with_reducible exact .here _ _ | with_reducible exact Take.self _ | with_reducible apply Take.cons | with_reducible apply Out.there | with_reducible apply Take.skip | with_reducible exact Take.pre _ _ | with_reducible apply Out.app) rfl ?_
  rintro _ _ ⟨rfl, rfl⟩
  simp only [List.cons_append, List.nil_append]
  rw [nw3]
  refine XL_det (.yes 50 rfl rfl rfl) (D_pure (v := .bool true) rfl) rfl ?_
  refine XL_det .no (D_pure (v := .bool true) rfl) rfl ?_
  refine XL_det .no (D_pure rfl) rfl ?_
  refine XL_then ?_
  refine X_ret ?_
  refine ret_ok (.nil _) (res_tmp rfl rfl) ?_
  exact ⟨[K], ⟨rfl, rfl⟩, _, (by repeat first | with_reducible exact .nil _ | with_reducible exact .here _ _ | exact .here _ _ | with_reducible exact Take.self _ | with_reducible apply Take.cons | with_reducible apply Out.there | with_reducible apply Take.skip | with_reducible exact Take.pre _ _ | with_reducible apply Out.app)⟩

end Go.Proofs.YtkkdchgnknpceaaDoor
end

section
/- How long a job waits for those behind it. Plain. -/
namespace Go.Proofs.YtkkdchgnknpceaaDoor
open Go Go.Sl
set_option linter.unusedVariables false
set_option linter.unusedSimpArgs false
abbrev allS : BitVec 32 := 65535#32
theorem hasB_all {k : Nat} (h : k < 16) : hasB allS (k : Int) = true :=
  (by decide : ∀ i : Fin 16, hasB 65535#32 ((i.val : Nat) : Int) = true) ⟨k, h⟩
/-- A job of a task, with work and what it holds. -/
abbrev JN (k : Nat) (s : Cr) (e : Nat → Int) (c : Int) (x : Arr Sec) : JC := ⟨k, s.now, s.now + e 1, c, 0, x⟩
theorem Sys.release {ts : List (Nat → Int)} {A : Nat → Prop} {s : Cr} (h : Sys ts A s) {k : Nat} {e : Nat → Int} {c : Int} {x a : Arr Sec} (ha : A k) (he : ts[k]? = some e) (hk : k < 16) (hc : 1 ≤ c ∧ c ≤ e 2 ∧ e 2 ≤ 4096) (hx : okL e c 0 x.l) (hax : a.l = x.l) (hao : a.Own) :
    COk (relC s (JN k s e c x) a) ∧ (relC s (JN k s e c x) a).now = s.now ∧ (relErr s (JN k s e c x) = 0 → Sys ts A (relC s (JN k s e c x) a) ∧ Came s (relC s (JN k s e c x) a) k (JN k s e c a)) ∧ (relErr s (JN k s e c x) ≠ 0 → relC s (JN k s e c x) a = s) ∧ (s.L k ↔ relErr s (JN k s e c x) ≠ 0) := by
  have h0 := h.ok.now
  have hid : ¬ ((JN k s e c x).id < 0 ∨ (JN k s e c x).id ≥ 16 ∨ (JN k s e c x).done ≥ (JN k s e c x).cost) := by show ¬ ((k : Int) < 0 ∨ (k : Int) ≥ 16 ∨ (0 : Int) ≥ c); omega
  have ok : COk (relC s (JN k s e c x) a) := rel_ok h.ok hao hax (fun m hm hm16 => ⟨hm16, hm, by show (0 : Int) ≤ 0; omega, by show (0 : Int) ≤ 100000000; omega, by show (0 : Int) ≤ c; omega, by show c ≤ 100000000; omega, by show -1000000000 ≤ s.now; omega, by show s.now ≤ 1000000000; omega⟩)
  have hl : s.L k ↔ relErr s (JN k s e c x) ≠ 0 := by
    constructor
    · intro q; rw [rel_242 hid q]; decide
    · intro q
      cases hc : hasB s.live (k : Int) with
      | true => exact hc
      | false => exact absurd (rel_0 hid hc) q
  refine ⟨ok, ?_, fun q => ?_, fun q => relC_e q, hl⟩
  · by_cases q : relErr s (JN k s e c x) = 0
    · rw [relC_0 q]
    · rw [relC_e q]
  · obtain ⟨c1, _⟩ := rel_came (a := a) (k := k) (show (JN k s e c x).id = k from rfl) q
    exact ⟨h.came ok c1 ha he rfl (by show 0 < c; omega) (by show okL _ _ _ a.l; rw [hax]; exact hx) hc.2.1 rfl (by show s.now ≤ s.now; omega), c1⟩
/-! ### Waiting -/
def bump (lv : BitVec 32) (task : Int) (wt : Nat → Int) (n : Nat) : Nat → Int := fun j => if j < n ∧ hasB lv (j : Int) = true ∧ task > (j : Int) then wt j + 1 else wt j
theorem bump_0 {lv : BitVec 32} {task : Int} {wt : Nat → Int} : bump lv task wt 0 = wt := by funext j; unfold bump; rw [if_neg (by omega)]
theorem bump_at {lv : BitVec 32} {task : Int} {wt : Nat → Int} {n : Nat} : bump lv task wt n n = wt n := by unfold bump; rw [if_neg (by omega)]
theorem bump_t {lv : BitVec 32} {task : Int} {wt : Nat → Int} {n : Nat} (h1 : hasB lv (n : Int) = true) (h2 : task > (n : Int)) : upd (bump lv task wt n) n (bump lv task wt n n + 1) = bump lv task wt (n + 1) := by
  funext j
  by_cases c : j = n
  · subst c; rw [upd_same, bump_at]; unfold bump; rw [if_pos ⟨by omega, h1, h2⟩]
  · rw [upd_ne _ _ c]; unfold bump
    by_cases d : j < n
    · by_cases q : hasB lv (j : Int) = true ∧ task > (j : Int)
      · rw [if_pos ⟨d, q⟩, if_pos ⟨by omega, q⟩]
      · rw [if_neg (fun z => q z.2), if_neg (fun z => q z.2)]
    · rw [if_neg (by omega), if_neg (by omega)]
theorem bump_f {lv : BitVec 32} {task : Int} {wt : Nat → Int} {n : Nat} (h : ¬ (hasB lv (n : Int) = true ∧ task > (n : Int))) : bump lv task wt n = bump lv task wt (n + 1) := by
  funext j
  unfold bump
  by_cases c : j = n
  · subst c; rw [if_neg (by omega), if_neg (fun z => h z.2)]
  · by_cases d : j < n
    · by_cases q : hasB lv (j : Int) = true ∧ task > (j : Int)
      · rw [if_pos ⟨d, q⟩, if_pos ⟨by omega, q⟩]
      · rw [if_neg (fun z => q z.2), if_neg (fun z => q z.2)]
    · rw [if_neg (by omega), if_neg (by omega)]
structure Waits (ts : List (Nat → Int)) (s : Cr) (wt : Nat → Int) : Prop where
  sys : Sys ts (fun _ => True) s
  tb : s.tab = ceilF ts allS
  w0 : ∀ w, 0 ≤ wt w
  wb : ∀ w, w < 16 → wt w ≤ blkV ts allS allS w
  wr : ∀ w k, w < k → s.L w → s.L k → 0 ≤ s.H k → s.eff k ≤ w → wt w + remL (s.jf k).secs.l (s.jf k).done ≤ blkV ts allS allS w
theorem blocker {ts : List (Nat → Int)} {s : Cr} (h : Sys ts (fun _ => True) s) (tb : s.tab = ceilF ts allS) (hT : ∀ e ∈ ts, ∀ r : Nat, r < 8 → e (3 + r) ≤ 4096) {w k : Nat} (hw : w < k) (hk : s.L k) (hh : 0 ≤ s.H k) (he : s.eff k ≤ w) : remL (s.jf k).secs.l (s.jf k).done ≤ blkV ts allS allS w := by
  obtain ⟨e, r, h1, h2, h3, h4, h5, h6, h7⟩ := h.held hk hh
  have hc : ceilV ts allS r ≤ (w : Int) := by
    have : s.tab r = ceilV ts allS r := by rw [tb]
    omega
  have := blk_ge (n := 8) hT h1 hw (hasB_all (h.ok.live k hk).1) hc (by decide) h2
  show _ ≤ blkN ts allS allS w 8
  omega
theorem Waits.tick {ts : List (Nat → Int)} {s : Cr} {wt : Nat → Int} (h : Waits ts s wt) (hn : s.now < 1000000000) : Waits ts (tickC s).1 (bump s.live (tickC s).2.task wt 16) := by
  obtain ⟨h2, ⟨k, t, o⟩ | ⟨q, qe⟩⟩ := h.sys.tick_or hn
  · obtain ⟨ek, _, hok, _⟩ := h.sys.task t.g.l
    have bk : ∀ w, s.L w → w < k → bump s.live (tickC s).2.task wt 16 w = wt w + 1 := fun w hw hwk => by
      unfold bump; rw [o.task, if_pos ⟨(h.sys.ok.live w hw).1, hw, by omega⟩]
    have bn : ∀ w, ¬ (s.L w ∧ w < k) → bump s.live (tickC s).2.task wt 16 w = wt w := fun w hw => by
      unfold bump; rw [o.task, if_neg (fun z => hw ⟨z.2.1, by omega⟩)]
    refine ⟨h2, by rw [t.tab, h.tb], fun w => ?_, fun w hw => ?_, fun w p hwp lw lp hp ep => ?_⟩
    · have := h.w0 w
      unfold bump; split <;> omega
    · by_cases c : s.L w ∧ w < k
      · rw [bk w c.1 c.2]
        obtain ⟨g1, g2⟩ := t.g.over h.sys.ok c.1 c.2
        have := h.wr w k c.2 c.1 t.g.l g1 g2
        have := rem_pos (l := (s.jf k).secs.l) (d := (s.jf k).done) g1
        omega
      · rw [bn w c]; exact h.wb w hw
    · have lw' := ((t.live w).1 lw).1
      have lp' := ((t.live p).1 lp).1
      by_cases c : p = k
      · subst c
        by_cases g : s.H p < 0
        · have := (t.g.free h.sys.ok g lw').2; omega
        · have g' : 0 ≤ hold (s.jf p).secs.l (s.jf p).done := by show 0 ≤ s.H p; omega
          have hp' := hp
          rw [t.hk] at hp'
          have e1 : (tickC s).1.H p = s.H p := by rw [t.hk]; exact hold_stay' hok hp' g'
          have e2 : (tickC s).1.eff p = s.eff p := by show levelV _ _ _ = levelV _ _ _; rw [t.tab, e1]
          rw [e2] at ep
          have := h.wr w p hwp lw' lp' g' ep
          rw [bk w lw' hwp, t.jk]
          show _ + remL (s.jf p).secs.l ((s.jf p).done + 1) ≤ _
          rw [rem_step hok hp' g']; omega
      · have e := t.hne c
        rw [e.1] at hp; rw [e.2] at ep
        have := h.wr w p hwp lw' lp' hp ep
        have hn : ¬ (s.L w ∧ w < k) := fun z => by
          obtain ⟨g1, g2⟩ := t.g.over h.sys.ok lw' z.2
          exact c (h.sys.one lp' t.g.l hwp z.2 hp g1 ep g2)
        rw [bn w hn, t.jne c]; exact this
  · have e : bump s.live (tickC s).2.task wt 16 = wt := by
      funext j; unfold bump; rw [if_neg (fun z => q j z.2.1)]
    rw [e]
    refine ⟨h2, by rw [qe]; exact h.tb, h.w0, h.wb, fun w k _ lw => ?_⟩
    rw [qe] at lw
    exact absurd lw (q w)
theorem Waits.came {ts : List (Nat → Int)} {s s' : Cr} {wt : Nat → Int} {k : Nat} {j : JC} (h : Waits ts s wt) (hT : ∀ e ∈ ts, ∀ r : Nat, r < 8 → e (3 + r) ≤ 4096) (h2 : Sys ts (fun _ => True) s') (t : Came s s' k j) (h0 : s'.H k < 0) : Waits ts s' (upd wt k 0) := by
  refine ⟨h2, by rw [t.tab, h.tb], fun w => ?_, fun w hw => ?_, fun w p hwp lw lp hp ep => ?_⟩
  · by_cases c : w = k
    · subst c; rw [upd_same]; omega
    · rw [upd_ne _ _ c]; exact h.w0 w
  · by_cases c : w = k
    · subst c; rw [upd_same]; exact (blkN_in hT 8 (by decide)).1
    · rw [upd_ne _ _ c]; exact h.wb w hw
  · have c : p ≠ k := fun c => by subst c; omega
    have lp' := ((t.live p).1 lp).resolve_right c
    by_cases d : w = k
    · subst d; rw [upd_same]
      have := blocker h2 (by rw [t.tab, h.tb]) hT hwp lp hp ep
      omega
    · have e := t.hne c
      rw [e.1] at hp; rw [e.2] at ep
      rw [upd_ne _ _ d, t.jne c]
      exact h.wr w p hwp (((t.live w).1 lw).resolve_right d) lp' hp ep
theorem Waits.zero {ts : List (Nat → Int)} (hl : ts.length ≤ 16) (hT : ∀ e ∈ ts, ∀ r : Nat, r < 8 → e (3 + r) ≤ 4096) : Waits ts (ceilC cr0 (ceilF ts allS)) (fun _ => 0) := by
  have hn : ∀ m, ¬ (ceilC cr0 (ceilF ts allS)).L m := fun m hm => cr0_no m hm
  refine ⟨Sys.zero (fun r hr => ?_) (fun k e _ he r hr hu => ?_), rfl, fun _ => Int.le_refl 0, fun w _ => (blkN_in hT 8 (by decide)).1, fun w k _ lw => absurd lw (hn w)⟩
  · rcases (ceilV_least ts allS r).at_ with q | ⟨i, q1, _, q2⟩
    · show 0 ≤ ceilV ts allS r ∧ ceilV ts allS r ≤ 16; omega
    · show 0 ≤ ceilV ts allS r ∧ ceilV ts allS r ≤ 16; omega
  · have hk := (List.getElem?_eq_some_iff.1 he).1
    exact (ceilV_least ts allS r).le k (by omega) (by rw [hit_of he, hasB_all (by omega)]; simp [usesT]; exact hu)
end Go.Proofs.YtkkdchgnknpceaaDoor
end

section
namespace Go.Proofs.YtkkdchgnknpceaaDoor
open Go Go.Sl
set_option linter.unusedVariables false
set_option linter.unusedSimpArgs false
set_option maxRecDepth 4000
variable {B : Nat} {K : Asrt B}
theorem en_10 : Go.Proofs.Enters Tryd.prog 10 := Go.Proofs.enters_of Tryd.func10 (by kernel_rfl) rfl
theorem en_11 : Go.Proofs.Enters Tryd.prog 11 := Go.Proofs.enters_of Tryd.func11 (by kernel_rfl) rfl
theorem en_13 : Go.Proofs.Enters Tryd.prog 13 := Go.Proofs.enters_of Tryd.func13 (by kernel_rfl) rfl
theorem en_14 : Go.Proofs.Enters Tryd.prog 14 := Go.Proofs.enters_of Tryd.func14 (by kernel_rfl) rfl
theorem en_19 : Go.Proofs.Enters Tryd.prog 19 := Go.Proofs.enters_of Tryd.func19 (by kernel_rfl) rfl
theorem en_22 : Go.Proofs.Enters Tryd.prog 22 := Go.Proofs.enters_of Tryd.func22 (by kernel_rfl) rfl
theorem en_23 : Go.Proofs.Enters Tryd.prog 23 := Go.Proofs.enters_of Tryd.func23 (by kernel_rfl) rfl
theorem en_9 : Go.Proofs.Enters Tryd.prog 9 := Go.Proofs.enters_of Tryd.func9 (by kernel_rfl) rfl
theorem fld_41_1 : fldOff Tryd.prog 41 1 = some 1 := by kernel_rfl
theorem zero_38 : zeroOf Tryd.prog 38 = some [.int .i64 0, .int .i64 0, .int .i64 0, .int .i64 0, .int .i64 0, .int .i64 0, .int .i64 0, .int .i64 0, .int .i64 0, .int .i64 0, .int .i64 0, .int .i64 0, .int .i64 0, .int .i64 0, .int .i64 0, .int .i64 0] := by kernel_rfl
theorem zero_41 : zeroOf Tryd.prog 41 = some [.int .i64 0, .int .i64 0, .int .i64 0, .int .u32 0, .slice none 0 0] := by kernel_rfl

theorem r16_get {f : Nat → Int} {j : Nat} (h : j < 16) : (rowI 16 f)[0 + j * 1]? = some (.int .i64 (f j)) := by rw [Nat.zero_add, Nat.mul_one]; exact rowF_get h
theorem r16_set {f : Nat → Int} {j : Nat} {v : Int} : (rowI 16 f).set (0 + j * 1) (.int .i64 v) = rowI 16 (upd f j v) := by rw [Nat.zero_add, Nat.mul_one]; exact rowF_set (c := fun m => Value.int .i64 m) (v := v)
theorem r16_lt {f : Nat → Int} {k : Nat} (h : k < 16) : Nat.blt (0 + k * 1) (rowI 16 f).length = true := by simp [rowF_len]; omega
theorem tick_now (s : Cr) : (tickC s).1.now = s.now + 1 := by
  unfold tickC
  split
  · dsimp only; split <;> rfl
  · rfl
theorem bump_in {lv : BitVec 32} {task : Int} {wt : Nat → Int} {n m j : Nat} (h1 : j < n) (h2 : j < m) : bump lv task wt n j = bump lv task wt m j := by
  unfold bump
  by_cases q : hasB lv (j : Int) = true ∧ task > (j : Int)
  · rw [if_pos ⟨h1, q⟩, if_pos ⟨h2, q⟩]
  · rw [if_neg (fun z => q z.2), if_neg (fun z => q z.2)]

theorem schedWaits {Ki : Asrt B} (x : Img) (hx : x.In Ki) (l : Arr OpS) (hl : OpsIn Ki l) (hK : Rd K ⟨0, 0, none⟩ (tab32.map fun m => .int .u8 m)) (hd : Dup K) : Ctr Tryd.prog B 3 [x.v, .slice l.oad l.l.length l.c] [K, Ki] (fun v S => v = .bool true ∧ S = [K, Ki]) := by
  refine Ctr_of_X (N := 116) Tryd.func3 rfl (by simp) rfl ?_
  intro w0 D0
  refine X_seq ?_
  refine X_region ?_
  refine XL_box (cs := [.int .i64 x.res, .slice x.tasks.oad x.tasks.l.length x.tasks.c, .slice x.modes.oad x.modes.l.length x.modes.c, .slice x.edges.oad x.edges.l.length x.edges.c]) .no rfl rfl rfl (fun b1 => ?_)
  refine XL_det .no (D_pure rfl) rfl ?_
  refine XL_then ?_
  refine X_seq ?_
  refine X_seq ?_
  refine X_region ?_
  refine XL_det .no (D_ldso (vs := [.int .i64 x.res, .slice x.tasks.oad x.tasks.l.length x.tasks.c, .slice x.modes.oad x.modes.l.length x.modes.c, .slice x.edges.oad x.edges.l.length x.edges.c]) rfl (by repeat first | with_reducible exact .here _ _ | with_reducible apply Out.there | with_reducible apply Out.app) tk_26 rfl (by rfl)) rfl ?_
  refine XL_callk .no en_9 rfl (rgreat x hx) (by repeat first | with_reducible exact .nil _ | with_reducible exact .here _ _ | with_reducible exact Take.self _ | with_reducible apply Take.cons | with_reducible apply Out.there | with_reducible apply Take.skip | with_reducible exact Take.pre _ _ | with_reducible apply Out.app) rfl ?_
  refine XL_det .no (D_pure rfl) rfl ?_
  refine XL_split (t := 16) rfl (fun h1 => ?_) (fun h1 => ?_)
  · try simp only [decide_eq_true_eq, decide_eq_false_iff_not, Bool.not_eq_true', Bool.not_eq_false', beq_iff_eq, bne_iff_ne, beq_eq_false_iff_ne, bne_eq_false_iff_eq, Int.not_lt, Int.not_le, gt_iff_lt, ge_iff_le, ne_eq] at h1
    refine XL_skip 16 rfl rfl rfl rfl rfl ?_
    refine XL_skip 16 rfl rfl rfl rfl rfl ?_
    refine XL_skip 16 rfl rfl rfl rfl rfl ?_
    refine XL_det .no (D_pure rfl) rfl ?_
    refine XL_det .no (D_pure rfl) rfl ?_
    refine XL_skip 21 rfl rfl rfl rfl rfl ?_
    refine XL_skip 21 rfl rfl rfl rfl rfl ?_
    refine XL_det .no (D_pure rfl) rfl ?_
    refine XL_then ?_
    refine X_cond_t rfl rfl ?_
    refine X_seq ?_
    refine X_region ?_
    refine XL_det .no (D_pure rfl) rfl ?_
    refine XL_then ?_
    refine X_ret ?_
    refine thenX_ret ?_
    refine ret_ok (.nil _) (res_tmp rfl rfl) ?_
    exact ⟨[K, Ki], ⟨rfl, rfl⟩, _, (by repeat first | with_reducible exact .nil _ | with_reducible exact .here _ _ | exact .here _ _ | with_reducible exact Take.self _ | with_reducible apply Take.cons | with_reducible apply Out.there | with_reducible apply Take.skip | with_reducible exact Take.pre _ _ | with_reducible apply Out.app)⟩
  · try simp only [decide_eq_true_eq, decide_eq_false_iff_not, Bool.not_eq_true', Bool.not_eq_false', beq_iff_eq, bne_iff_ne, beq_eq_false_iff_ne, bne_eq_false_iff_eq, Int.not_lt, Int.not_le, gt_iff_lt, ge_iff_le, ne_eq] at h1
    refine XL_det (.yes 16 rfl rfl rfl) (D_ldso (vs := [.int .i64 x.res, .slice x.tasks.oad x.tasks.l.length x.tasks.c, .slice x.modes.oad x.modes.l.length x.modes.c, .slice x.edges.oad x.edges.l.length x.edges.c]) rfl (by repeat first | with_reducible exact .here _ _ | with_reducible apply Out.there | with_reducible apply Out.app) tk_26 rfl (by rfl)) rfl ?_
    refine XL_call (.yes 16 rfl rfl rfl) en_10 rfl (rright x hx h1) (by repeat first | with_reducible exact .nil _ | with_reducible exact .here _ _ | with_reducible exact Take.self _ | with_reducible apply Take.cons | with_reducible apply Out.there | with_reducible apply Take.skip | with_reducible exact Take.pre _ _ | with_reducible apply Out.app) rfl ?_
    rintro _ _ ⟨br, rfl, hbr, rfl⟩
    simp only [List.cons_append, List.nil_append]
    refine XL_det (.yes 16 rfl rfl rfl) (D_pure rfl) rfl ?_
    refine XL_det .no (D_pure rfl) rfl ?_
    refine XL_det .no (D_pure rfl) rfl ?_
    refine XL_split (t := 21) rfl (fun h2 => ?_) (fun h2 => ?_)
    · try simp only [decide_eq_true_eq, decide_eq_false_iff_not, Bool.not_eq_true', Bool.not_eq_false', beq_iff_eq, bne_iff_ne, beq_eq_false_iff_ne, bne_eq_false_iff_eq, Int.not_lt, Int.not_le, gt_iff_lt, ge_iff_le, ne_eq] at h2
      refine XL_skip 21 rfl rfl rfl rfl rfl ?_
      refine XL_skip 21 rfl rfl rfl rfl rfl ?_
      refine XL_det .no (D_pure rfl) rfl ?_
      refine XL_then ?_
      refine X_cond_t rfl rfl ?_
      refine X_seq ?_
      refine X_region ?_
      refine XL_det .no (D_pure rfl) rfl ?_
      refine XL_then ?_
      refine X_ret ?_
      refine thenX_ret ?_
      refine ret_ok (.nil _) (res_tmp rfl rfl) ?_
      exact ⟨[K, Ki], ⟨rfl, rfl⟩, _, (by repeat first | with_reducible exact .nil _ | with_reducible exact .here _ _ | exact .here _ _ | with_reducible exact Take.self _ | with_reducible apply Take.cons | with_reducible apply Out.there | with_reducible apply Take.skip | with_reducible exact Take.pre _ _ | with_reducible apply Out.app)⟩
    · try simp only [decide_eq_true_eq, decide_eq_false_iff_not, Bool.not_eq_true', Bool.not_eq_false', beq_iff_eq, bne_iff_ne, beq_eq_false_iff_ne, bne_eq_false_iff_eq, Int.not_lt, Int.not_le, gt_iff_lt, ge_iff_le, ne_eq] at h2
      have hR := hbr h2
      have hT := hR.long
      have hnt := hR.nt
      have hZ := Waits.zero hnt.2 hT
      refine XL_det (.yes 21 rfl rfl rfl) (D_pure rfl) rfl ?_
      refine XL_call (.yes 21 rfl rfl rfl) en_11 rfl (ogreat l hl) (by repeat first | with_reducible exact .nil _ | with_reducible exact .here _ _ | with_reducible exact Take.self _ | with_reducible apply Take.cons | with_reducible apply Out.there | with_reducible apply Take.skip | with_reducible exact Take.pre _ _ | with_reducible apply Out.app) rfl ?_
      rintro _ _ ⟨bg, rfl, hbg, rfl⟩
      simp only [List.cons_append, List.nil_append]
      refine XL_det .no (D_pure rfl) rfl ?_
      refine XL_then ?_
      refine X_cond rfl (fun h3 => ?_) (fun h3 => ?_)
      · try simp only [decide_eq_true_eq, decide_eq_false_iff_not, Bool.not_eq_true', Bool.not_eq_false', beq_iff_eq, bne_iff_ne, beq_eq_false_iff_ne, bne_eq_false_iff_eq, Int.not_lt, Int.not_le, gt_iff_lt, ge_iff_le, ne_eq] at h3
        refine X_seq ?_
        refine X_region ?_
        refine XL_det .no (D_pure rfl) rfl ?_
        refine XL_then ?_
        refine X_ret ?_
        refine thenX_ret ?_
        refine ret_ok (.nil _) (res_tmp rfl rfl) ?_
        exact ⟨[K, Ki], ⟨rfl, rfl⟩, _, (by repeat first | with_reducible exact .nil _ | with_reducible exact .here _ _ | exact .here _ _ | with_reducible exact Take.self _ | with_reducible apply Take.cons | with_reducible apply Out.there | with_reducible apply Take.skip | with_reducible exact Take.pre _ _ | with_reducible apply Out.app)⟩
      · try simp only [decide_eq_true_eq, decide_eq_false_iff_not, Bool.not_eq_true', Bool.not_eq_false', beq_iff_eq, bne_iff_ne, beq_eq_false_iff_ne, bne_eq_false_iff_eq, Int.not_lt, Int.not_le, gt_iff_lt, ge_iff_le, ne_eq] at h3
        have hL := hbg h3
        have hnl := hL.n
        refine X_skip ?_
        refine thenX_normal ?_
        refine X_seq ?_
        refine X_region ?_
        refine XL_call .no en_12 rfl (snew) (by repeat first | with_reducible exact .nil _ | with_reducible exact .here _ _ | with_reducible exact Take.self _ | with_reducible apply Take.cons | with_reducible apply Out.there | with_reducible apply Take.skip | with_reducible exact Take.pre _ _ | with_reducible apply Out.app) rfl ?_
        rintro _ _ ⟨c, rfl, rfl⟩
        simp only [List.cons_append, List.nil_append]
        refine XL_det .no (D_pure rfl) rfl ?_
        refine XL_then ?_
        refine X_seq ?_
        refine X_seq ?_
        refine X_region ?_
        refine XL_det .no (D_pure rfl) rfl ?_
        refine XL_det .no (D_ptrnil rfl rfl ptr_30 rfl) rfl ?_
        refine XL_then ?_
        refine X_cond_f rfl rfl ?_
        refine X_skip ?_
        refine thenX_normal ?_
        refine X_seq ?_
        refine X_region ?_
        refine XL_det .no (D_pure rfl) rfl ?_
        refine XL_det .no (D_ldso (vs := [.int .i64 x.res, .slice x.tasks.oad x.tasks.l.length x.tasks.c, .slice x.modes.oad x.modes.l.length x.modes.c, .slice x.edges.oad x.edges.l.length x.edges.c]) rfl (by repeat first | with_reducible exact .here _ _ | with_reducible apply Out.there | with_reducible apply Out.app) tk_26 rfl (by rfl)) rfl ?_
        refine XL_callk .no en_14 rfl (cof x hx allS hK) (by repeat first | with_reducible exact .nil _ | with_reducible exact .here _ _ | with_reducible exact Take.self _ | with_reducible apply Take.cons | with_reducible apply Out.there | with_reducible apply Take.skip | with_reducible exact Take.pre _ _ | with_reducible apply Out.app) rfl ?_
        refine XL_call .no en_13 rfl (sceil c cr0 (ceilF x.tasks.l allS) cr0_ok hZ.sys.ok.tab hK hd) (by repeat first | with_reducible exact .nil _ | with_reducible exact .here _ _ | with_reducible exact Take.self _ | with_reducible apply Take.cons | with_reducible apply Out.there | with_reducible apply Take.skip | with_reducible exact Take.pre _ _ | with_reducible apply Out.app) rfl ?_
        rintro _ _ ⟨rfl, rfl⟩
        simp only [List.cons_append, List.nil_append]
        rw [show (rowS cr0.jf : Nat → Asrt B) = rowS (ceilC cr0 (ceilF x.tasks.l allS)).jf from rfl]
        refine XL_then ?_
        refine X_seq ?_
        refine X_region ?_
        refine XL_alloc (cs := rowI 16 (fun _ => 0)) .no zero_38 rfl (fun b2 => ?_)
        refine XL_then ?_
        refine X_seq ?_
        refine X_seq ?_
        refine X_region ?_
        refine XL_det .no (D_pure rfl) rfl ?_
        refine XL_then ?_
        refine X_block ?_
        refine X_loop (α := Nat × Cr × (Nat → Int)) (fun ⟨i, s, wt⟩ => i ≤ l.l.length ∧ Waits x.tasks.l s wt ∧ s.now ≤ 50 * i) (fun ⟨i, s, wt⟩ => [(7, .int .i64 (i : Int)), (1, .slice l.oad l.l.length l.c), (2, .pointer (some ⟨b1, 0, none⟩)), (5, .pointer (some ⟨c, 0, none⟩)), (6, .pointer (some ⟨b2, 0, none⟩))]) (fun ⟨i, s, wt⟩ => [blk b1 [.int .i64 x.res, .slice x.tasks.oad x.tasks.l.length x.tasks.c, .slice x.modes.oad x.modes.l.length x.modes.c, .slice x.edges.oad x.edges.l.length x.edges.c] 26, blk c (crC s) 110, many 16 (rowS s.jf), blk b2 (rowI 16 wt) 38, K, Ki]) (fun ⟨i, s, wt⟩ => l.l.length - i) (0, ceilC cr0 (ceilF x.tasks.l allS), fun _ => 0) ?_ (by refine ⟨?_, ?_, ?_, ?_, ?_, trivial⟩ <;> rfl) (by repeat first | with_reducible exact .nil _ | with_reducible exact .here _ _ | with_reducible exact Take.self _ | with_reducible apply Take.cons | with_reducible apply Out.there | with_reducible apply Take.skip | with_reducible exact Take.pre _ _ | with_reducible apply Out.app) ?_
        · exact ⟨by omega, hZ, by show (0 : Int) ≤ _; omega⟩
        · rintro ⟨i, s, wt⟩ ⟨hi, hW, hnow⟩
          dsimp only
          refine X_seq ?_
          refine X_seq ?_
          refine X_region ?_
          refine XL_det .no (D_pure rfl) rfl ?_
          refine XL_det .no (D_pure rfl) rfl ?_
          refine XL_det .no (D_len rfl rfl slc_27) rfl ?_
          refine XL_det .no (D_pure rfl) rfl ?_
          refine XL_then ?_
          refine X_cond rfl (fun h4 => ?_) (fun h4 => ?_)
          · try simp only [decide_eq_true_eq, decide_eq_false_iff_not, Bool.not_eq_true', Bool.not_eq_false', beq_iff_eq, bne_iff_ne, beq_eq_false_iff_ne, bne_eq_false_iff_eq, Int.not_lt, Int.not_le, gt_iff_lt, ge_iff_le, ne_eq] at h4
            have h0n := hW.sys.ok.now
            obtain ⟨o, ho⟩ : ∃ o, l.l[i]? = some o := ⟨_, List.getElem?_eq_getElem (by omega)⟩
            have hto := ticks_in o
            obtain ⟨kq, hq1, hq2, hq3, hq4⟩ := idx_of o.kind (n := 6) (by decide)
            have hq2 : Int.tmod (Int.tmod o.kind 6 + 6) 6 = kq := hq2
            have hq3 : -6 < Int.tmod o.kind 6 := hq3
            have hq4 : Int.tmod o.kind 6 < 6 := hq4
            obtain ⟨k, hk1, hk2, hk3, hk4⟩ := idx_of o.task (n := x.tasks.l.length) (by omega)
            obtain ⟨e, he⟩ : ∃ e, x.tasks.l[k]? = some e := ⟨_, List.getElem?_eq_getElem hk1⟩
            have hE := hR.tasks e (List.mem_of_getElem? he)
            have hE0 := hE.p
            have hE1 := hE.d
            have hE2 := hE.c
            refine X_skip ?_
            refine thenX_normal ?_
            refine X_seq ?_
            refine X_block ?_
            refine X_seq ?_
            refine X_region ?_
            refine XL_det .no (D_pure rfl) rfl ?_
            refine XL_det .no (D_pure rfl) rfl ?_
            refine XL_det .no (D_idxSo rfl rfl slc_27 (l).nil0 rfl (by omega) rfl) rfl ?_
            refine XL_det .no (D_els (enc := encOp) (sz := 5) (i := i) (fun _ => rfl) rfl (by repeat first | with_reducible exact .here _ _ | with_reducible apply Out.there | with_reducible apply Out.app) hl.ops tk_41 ho) rfl ?_
            refine XL_alloc .no zero_41 rfl (fun b3 => ?_)
            refine XL_efd .no (F_stw rfl rfl rfl (by repeat first | with_reducible exact .here _ _ | with_reducible apply Out.there | with_reducible apply Out.app) tk_41 rfl rfl) ?_
            refine XL_then ?_
            refine X_seq ?_
            refine X_draw [blk b3 (encOp o) 41, blk b1 [.int .i64 x.res, .slice x.tasks.oad x.tasks.l.length x.tasks.c, .slice x.modes.oad x.modes.l.length x.modes.c, .slice x.edges.oad x.edges.l.length x.edges.c] 26] mixed (by repeat first | with_reducible exact .nil _ | with_reducible exact .here _ _ | with_reducible exact Take.self _ | with_reducible apply Take.cons | with_reducible apply Out.there | with_reducible apply Take.skip | with_reducible exact Take.pre _ _ | with_reducible apply Out.app) ?_
            refine XA_detp 0 rfl (by kernel_rfl) (by kernel_rfl) (by kernel_rfl) (fun _ _ _ _ h => h) .no (D_fldP rfl fld_41_1 (o' := 1) rfl) rfl ?_
            refine XA_det 1 rfl (by kernel_rfl) (by kernel_rfl) (by kernel_rfl) (by kernel_rfl) (fun _ _ _ _ h => h) .no (D_ldo rfl (by repeat first | with_reducible exact .here _ _ | with_reducible apply Out.there | with_reducible apply Out.app) tk_3 (by rfl)) rfl ?_
            refine XA_detp 2 rfl (by kernel_rfl) (by kernel_rfl) (by kernel_rfl) (fun _ _ _ _ h => h) .no (D_fldP rfl fld_26_1 (o' := 1) rfl) rfl ?_
            refine XA_det 3 rfl (by kernel_rfl) (by kernel_rfl) (by kernel_rfl) (by kernel_rfl) (fun _ _ _ _ h => h) .no (D_ldo rfl (by repeat first | with_reducible exact .here _ _ | with_reducible apply Out.there | with_reducible apply Out.app) tk_22 (by rfl)) rfl ?_
            refine XA_detp 4 rfl (by kernel_rfl) (by kernel_rfl) (by kernel_rfl) (fun _ _ _ _ h => h) .no (D_lenP rfl rfl slc_22) rfl ?_
            refine XA_det 5 rfl (by kernel_rfl) (by kernel_rfl) (by kernel_rfl) (by kernel_rfl) (fun _ _ _ _ h => h) .no (D_divmod rfl rfl (by omega) rfl) rfl ?_
            refine XA_detp 6 rfl (by kernel_rfl) (by kernel_rfl) (by kernel_rfl) (fun _ _ _ _ h => h) .no (D_fldP rfl fld_26_1 (o' := 1) rfl) rfl ?_
            refine XA_det 7 rfl (by kernel_rfl) (by kernel_rfl) (by kernel_rfl) (by kernel_rfl) (fun _ _ _ _ h => h) .no (D_ldo rfl (by repeat first | with_reducible exact .here _ _ | with_reducible apply Out.there | with_reducible apply Out.app) tk_22 (by rfl)) rfl ?_
            refine XA_detp 8 rfl (by kernel_rfl) (by kernel_rfl) (by kernel_rfl) (fun _ _ _ _ h => h) .no (D_lenP rfl rfl slc_22) rfl ?_
            refine XA_det 9 rfl (by kernel_rfl) (by kernel_rfl) (by kernel_rfl) (by kernel_rfl) (fun _ _ _ _ h => h) .no (D_add rfl rfl (by omega) (by omega)) rfl ?_
            refine XA_detp 10 rfl (by kernel_rfl) (by kernel_rfl) (by kernel_rfl) (fun _ _ _ _ h => h) .no (D_fldP rfl fld_26_1 (o' := 1) rfl) rfl ?_
            refine XA_det 11 rfl (by kernel_rfl) (by kernel_rfl) (by kernel_rfl) (by kernel_rfl) (fun _ _ _ _ h => h) .no (D_ldo rfl (by repeat first | with_reducible exact .here _ _ | with_reducible apply Out.there | with_reducible apply Out.app) tk_22 (by rfl)) rfl ?_
            refine XA_detp 12 rfl (by kernel_rfl) (by kernel_rfl) (by kernel_rfl) (fun _ _ _ _ h => h) .no (D_lenP rfl rfl slc_22) rfl ?_
            refine XA_det 13 rfl (by kernel_rfl) (by kernel_rfl) (by kernel_rfl) (by kernel_rfl) (fun _ _ _ _ h => h) .no (D_divmod (z := ((k : Nat) : Int)) rfl rfl (by omega) hk2) rfl ?_
            refine XA_detp 14 rfl (by kernel_rfl) (by kernel_rfl) (by kernel_rfl) (fun _ _ _ _ h => h) .no (D_pureP rfl) rfl ?_
            refine XA_done (by kernel_rfl) ?_
            try simp only [List.cons_append, List.nil_append, List.append_nil]
            refine thenX_normal ?_
            refine X_seq ?_
            refine X_seq ?_
            refine X_region ?_
            refine XL_det .no (D_fld rfl fld_41_0 (o' := 0) rfl) rfl ?_
            refine XL_det .no (D_ldo rfl (by repeat first | with_reducible exact .here _ _ | with_reducible apply Out.there | with_reducible apply Out.app) tk_3 (by rfl)) rfl ?_
            refine XL_det .no (D_divmod rfl rfl (by omega) rfl) rfl ?_
            refine XL_det .no (D_add rfl rfl (by omega) (by omega)) rfl ?_
            refine XL_det .no (D_divmod rfl rfl (by omega) rfl) rfl ?_
            refine XL_det .no (D_pure rfl) rfl ?_
            refine XL_then ?_
            refine X_cond rfl (fun h5 => ?_) (fun h5 => ?_)
            · try simp only [decide_eq_true_eq, decide_eq_false_iff_not, Bool.not_eq_true', Bool.not_eq_false', beq_iff_eq, bne_iff_ne, beq_eq_false_iff_ne, bne_eq_false_iff_eq, Int.not_lt, Int.not_le, gt_iff_lt, ge_iff_le, ne_eq] at h5
              refine X_seq ?_
              refine X_seq ?_
              refine X_draw [blk b3 (encOp o) 41, blk b1 [.int .i64 x.res, .slice x.tasks.oad x.tasks.l.length x.tasks.c, .slice x.modes.oad x.modes.l.length x.modes.c, .slice x.edges.oad x.edges.l.length x.edges.c] 26, Ki] mixed (by repeat first | with_reducible exact .nil _ | with_reducible exact .here _ _ | with_reducible exact Take.self _ | with_reducible apply Take.cons | with_reducible apply Out.there | with_reducible apply Take.skip | with_reducible exact Take.pre _ _ | with_reducible apply Out.app) ?_
              refine XA_detp 0 rfl (by kernel_rfl) (by kernel_rfl) (by kernel_rfl) (fun _ _ _ _ h => h) .no (D_pureP rfl) rfl ?_
              refine XA_detp 1 rfl (by kernel_rfl) (by kernel_rfl) (by kernel_rfl) (fun _ _ _ _ h => h) .no (D_pureP rfl) rfl ?_
              refine XA_detp 2 rfl (by kernel_rfl) (by kernel_rfl) (by kernel_rfl) (fun _ _ _ _ h => h) .no (D_fldP rfl fld_26_1 (o' := 1) rfl) rfl ?_
              refine XA_det 3 rfl (by kernel_rfl) (by kernel_rfl) (by kernel_rfl) (by kernel_rfl) (fun _ _ _ _ h => h) .no (D_ldo rfl (by repeat first | with_reducible exact .here _ _ | with_reducible apply Out.there | with_reducible apply Out.app) tk_22 (by rfl)) rfl ?_
              refine XA_detp 4 rfl (by kernel_rfl) (by kernel_rfl) (by kernel_rfl) (fun _ _ _ _ h => h) .no (D_pureP rfl) rfl ?_
              refine XA_detp 5 rfl (by kernel_rfl) (by kernel_rfl) (by kernel_rfl) (fun _ _ _ _ h => h) .no (D_idxSoP rfl rfl slc_22 (x.tasks).nil0 rfl (by omega) rfl) rfl ?_
              refine XA_det 6 rfl (by kernel_rfl) (by kernel_rfl) (by kernel_rfl) (by kernel_rfl) (fun _ _ _ _ h => h) .no (D_els (enc := encT) (sz := 11) (i := k) (fun _ => rfl) rfl (by repeat first | with_reducible exact .here _ _ | with_reducible apply Out.there | with_reducible apply Out.app) hx.tasks tk_48 he) rfl ?_
              refine XA_detp 7 rfl (by kernel_rfl) (by kernel_rfl) (by kernel_rfl) (fun _ _ _ _ h => h) .no (D_pureP rfl) rfl ?_
              refine XA_detp 9 rfl (by kernel_rfl) (by kernel_rfl) (by kernel_rfl) (fun _ _ _ _ h => h) .no (D_fldP rfl fld_41_2 (o' := 2) rfl) rfl ?_
              refine XA_det 10 rfl (by kernel_rfl) (by kernel_rfl) (by kernel_rfl) (by kernel_rfl) (fun _ _ _ _ h => h) .no (D_ldo rfl (by repeat first | with_reducible exact .here _ _ | with_reducible apply Out.there | with_reducible apply Out.app) tk_3 (by rfl)) rfl ?_
              refine XA_detp 11 rfl (by kernel_rfl) (by kernel_rfl) (by kernel_rfl) (fun _ _ _ _ h => h) .no (D_fldP rfl fld_41_4 (o' := 4) rfl) rfl ?_
              refine XA_det 12 rfl (by kernel_rfl) (by kernel_rfl) (by kernel_rfl) (by kernel_rfl) (fun _ _ _ _ h => h) .no (D_ldo rfl (by repeat first | with_reducible exact .here _ _ | with_reducible apply Out.there | with_reducible apply Out.app) tk_39 (by rfl)) rfl ?_
              refine XA_one 8 (by kernel_rfl) ?_
              refine XO_callk rfl .no en_17 rfl (by repeat first | with_reducible exact .nil _ | with_reducible apply App.cons) (snow c s) (by repeat first | with_reducible exact .nil _ | with_reducible exact .here _ _ | with_reducible exact Take.self _ | with_reducible apply Take.cons | with_reducible apply Out.there | with_reducible apply Take.skip | with_reducible exact Take.pre _ _ | with_reducible apply Out.app) rfl ?_
              refine XA_one 13 (by kernel_rfl) ?_
              refine XO_callc rfl .no en_16 rfl (by repeat first | with_reducible exact .nil _ | with_reducible apply App.cons) (jnew (k : Int) s.now e o.cost o.secs (hl.secs o (List.mem_of_getElem? ho)) (fun j hj => (hE.l j hj).1) (by omega) (by omega) (by omega)) (by repeat first | with_reducible exact .nil _ | with_reducible exact .here _ _ | with_reducible exact Take.self _ | with_reducible apply Take.cons | with_reducible apply Out.there | with_reducible apply Take.skip | with_reducible exact Take.pre _ _ | with_reducible apply Out.app) rfl ?_
              rintro _ _ ⟨x1, ⟨hx1, hx1o⟩, rfl, rfl⟩
              simp only [List.cons_append, List.nil_append]
              refine ⟨[row (.slice x1.oad x1.l.length x1.c) 123 3 x1.l.length (x1.l.flatMap encS), blk c (crC s) 110, many 16 (rowS s.jf), blk b2 (rowI 16 wt) 38, K], _, _, (by repeat first | with_reducible exact .nil _ | with_reducible apply App.cons), (by repeat first | with_reducible exact .nil _ | with_reducible exact .here _ _ | with_reducible exact Take.self _ | with_reducible apply Take.cons | with_reducible apply Out.there | with_reducible apply Take.skip | with_reducible exact Take.pre _ _ | with_reducible apply Out.app), ?_⟩
              refine XA_one 14 (by kernel_rfl) ?_
              refine XO_callc rfl .no en_15 rfl (by repeat first | with_reducible exact .nil _ | with_reducible apply App.cons) (srelease c s (Kj := row (.slice x1.oad x1.l.length x1.c) 123 3 x1.l.length (x1.l.flatMap encS)) (JN k s e (min (max o.cost 1) (e 2)) x1) (Rd_own hx1o rfl) hx1o (by show x1.l.length ≤ 1000; rw [hx1]; have := secs_len (T := e) (cost := min (max o.cost 1) (e 2)) o.secs.l 0 0 (by decide); omega) hW.sys.ok hK) (by repeat first | with_reducible exact .nil _ | with_reducible exact .here _ _ | with_reducible exact Take.self _ | with_reducible apply Take.cons | with_reducible apply Out.there | with_reducible apply Take.skip | with_reducible exact Take.pre _ _ | with_reducible apply Out.app) rfl ?_
              rintro _ _ ⟨a, ⟨ha, hao, rfl⟩, rfl⟩
              simp only [List.cons_append, List.nil_append]
              refine ⟨[blk c (crC ((relC s (JN k s e (min (max o.cost 1) (e 2)) x1) a))) 110, many 16 (rowS (relC s (JN k s e (min (max o.cost 1) (e 2)) x1) a).jf), blk b2 (rowI 16 wt) 38, K], _, _, (by repeat first | with_reducible exact .nil _ | with_reducible apply App.cons), (by repeat first | with_reducible exact .nil _ | with_reducible exact .here _ _ | with_reducible exact Take.self _ | with_reducible apply Take.cons | with_reducible apply Out.there | with_reducible apply Take.skip | with_reducible exact Take.pre _ _ | with_reducible apply Out.app), ?_⟩
              have hrl := (hW.sys : Sys x.tasks.l (fun _ => True) s).release (k := k) (c := min (max o.cost 1) (e 2)) (x := x1) (a := a) trivial he (by omega) (by omega) (by rw [hx1]; exact secs_ok (fun j hj => (hE.l j hj).1) _ _ _) ha hao
              refine XA_detp 15 rfl (by kernel_rfl) (by kernel_rfl) (by kernel_rfl) (fun _ _ _ _ h => h) .no (D_pureP rfl) rfl ?_
              refine XA_done (by kernel_rfl) ?_
              try simp only [List.cons_append, List.nil_append, List.append_nil]
              refine thenX_normal ?_
              refine X_cond rfl (fun h6 => ?_) (fun h6 => ?_)
              · try simp only [decide_eq_true_eq, decide_eq_false_iff_not, Bool.not_eq_true', Bool.not_eq_false', beq_iff_eq, bne_iff_ne, beq_eq_false_iff_ne, bne_eq_false_iff_eq, Int.not_lt, Int.not_le, gt_iff_lt, ge_iff_le, ne_eq] at h6
                refine X_region ?_
                refine XL_det .no (D_pure rfl) rfl ?_
                refine XL_det .no (D_idxA rfl rfl arr_38 rfl (by omega) rfl) rfl ?_
                refine XL_efd .no (F_st (k := 0 + k * 1) (cs' := rowI 16 (upd wt k 0)) rfl rfl rfl (by repeat first | with_reducible exact .here _ _ | with_reducible apply Out.there | with_reducible apply Out.app) tk_3 (r16_lt (by omega)) r16_set) ?_
                refine XL_then ?_
                refine X_exit ?_
                refine thenX_exit ?_
                refine inBlk_here ?_
                refine thenX_normal ?_
                refine X_region ?_
                refine XL_det .no (D_pure rfl) rfl ?_
                refine XL_det .no (D_add rfl rfl (by omega) (by omega)) rfl ?_
                refine XL_det .no (D_pure rfl) rfl ?_
                refine XL_nil ?_
                refine loopQ_next (i + 1, (relC s (JN k s e (min (max o.cost 1) (e 2)) x1) a), upd wt k 0) ?_ ?_ ?_ ?_
                · (try dsimp only); exact ⟨by omega, hW.came hT (hrl.2.2.1 h6).1 (hrl.2.2.1 h6).2 (by rw [(hrl.2.2.1 h6).2.hk]; show hold a.l 0 < 0; rw [ha]; show hold x1.l 0 < 0; rw [hx1, hold_0 (secs_ok (fun j hj => (hE.l j hj).1) _ _ _)]; decide), by rw [hrl.2.1]; omega⟩
                · (try dsimp only); omega
                · refine ⟨?_, ?_, ?_, ?_, ?_, trivial⟩ <;> rfl
                · (try dsimp only); exact ⟨_, (by repeat first | with_reducible exact .nil _ | with_reducible exact .here _ _ | with_reducible exact Take.self _ | with_reducible apply Take.cons | with_reducible apply Out.there | with_reducible apply Take.skip | with_reducible exact Take.pre _ _ | with_reducible apply Out.app)⟩
              · try simp only [decide_eq_true_eq, decide_eq_false_iff_not, Bool.not_eq_true', Bool.not_eq_false', beq_iff_eq, bne_iff_ne, beq_eq_false_iff_ne, bne_eq_false_iff_eq, Int.not_lt, Int.not_le, gt_iff_lt, ge_iff_le, ne_eq] at h6
                refine X_skip ?_
                refine thenX_normal ?_
                refine X_exit ?_
                refine thenX_exit ?_
                refine inBlk_here ?_
                refine thenX_normal ?_
                refine X_region ?_
                refine XL_det .no (D_pure rfl) rfl ?_
                refine XL_det .no (D_add rfl rfl (by omega) (by omega)) rfl ?_
                refine XL_det .no (D_pure rfl) rfl ?_
                refine XL_nil ?_
                refine loopQ_next (i + 1, (relC s (JN k s e (min (max o.cost 1) (e 2)) x1) a), wt) ?_ ?_ ?_ ?_
                · (try dsimp only); exact ⟨by omega, by rw [hrl.2.2.2.1 h6]; exact hW, by rw [hrl.2.1]; omega⟩
                · (try dsimp only); omega
                · refine ⟨?_, ?_, ?_, ?_, ?_, trivial⟩ <;> rfl
                · (try dsimp only); exact ⟨_, (by repeat first | with_reducible exact .nil _ | with_reducible exact .here _ _ | with_reducible exact Take.self _ | with_reducible apply Take.cons | with_reducible apply Out.there | with_reducible apply Take.skip | with_reducible exact Take.pre _ _ | with_reducible apply Out.app)⟩
            · try simp only [decide_eq_true_eq, decide_eq_false_iff_not, Bool.not_eq_true', Bool.not_eq_false', beq_iff_eq, bne_iff_ne, beq_eq_false_iff_ne, bne_eq_false_iff_eq, Int.not_lt, Int.not_le, gt_iff_lt, ge_iff_le, ne_eq] at h5
              refine X_skip ?_
              refine thenX_normal ?_
              refine X_seq ?_
              refine X_region ?_
              refine XL_det .no (D_pure rfl) rfl ?_
              refine XL_then ?_
              refine X_block ?_
              refine X_loop (α := Nat × Cr × (Nat → Int)) (fun ⟨n, s2, wt2⟩ => (n : Int) ≤ ticksO o ∧ Waits x.tasks.l s2 wt2 ∧ s2.now ≤ 50 * i + n) (fun ⟨n, s2, wt2⟩ => [(10, .int .i64 (n : Int)), (1, .slice l.oad l.l.length l.c), (2, .pointer (some ⟨b1, 0, none⟩)), (5, .pointer (some ⟨c, 0, none⟩)), (6, .pointer (some ⟨b2, 0, none⟩)), (7, .int .i64 (i : Int)), (8, .pointer (some ⟨b3, 0, none⟩))]) (fun ⟨n, s2, wt2⟩ => [blk b1 [.int .i64 x.res, .slice x.tasks.oad x.tasks.l.length x.tasks.c, .slice x.modes.oad x.modes.l.length x.modes.c, .slice x.edges.oad x.edges.l.length x.edges.c] 26, blk c (crC (s2)) 110, many 16 (rowS s2.jf), blk b2 (rowI 16 wt2) 38, blk b3 (encOp o) 41, K, Ki]) (fun ⟨n, s2, wt2⟩ => (ticksO o).toNat - n) (0, s, wt) ?_ (by refine ⟨?_, ?_, ?_, ?_, ?_, ?_, ?_, trivial⟩ <;> rfl) (by repeat first | with_reducible exact .nil _ | with_reducible exact .here _ _ | with_reducible exact Take.self _ | with_reducible apply Take.cons | with_reducible apply Out.there | with_reducible apply Take.skip | with_reducible exact Take.pre _ _ | with_reducible apply Out.app) ?_
              · exact ⟨by omega, hW, by omega⟩
              · rintro ⟨n, s2, wt2⟩ ⟨hn, hW2, hnow2⟩
                dsimp only
                refine X_seq ?_
                refine X_seq ?_
                refine X_region ?_
                refine XL_det .no (D_pure rfl) rfl ?_
                refine XL_det .no (D_ldso (vs := encOp o) rfl (by repeat first | with_reducible exact .here _ _ | with_reducible apply Out.there | with_reducible apply Out.app) tk_41 rfl (by rfl)) rfl ?_
                refine XL_callv .no en_18 rfl (oticks o) rfl ?_
                refine XL_det .no (D_pure rfl) rfl ?_
                refine XL_then ?_
                refine X_cond rfl (fun h7 => ?_) (fun h7 => ?_)
                · try simp only [decide_eq_true_eq, decide_eq_false_iff_not, Bool.not_eq_true', Bool.not_eq_false', beq_iff_eq, bne_iff_ne, beq_eq_false_iff_ne, bne_eq_false_iff_eq, Int.not_lt, Int.not_le, gt_iff_lt, ge_iff_le, ne_eq] at h7
                  have hWt := hW2.tick (by omega)
                  refine X_skip ?_
                  refine thenX_normal ?_
                  refine X_seq ?_
                  refine X_block ?_
                  refine X_seq ?_
                  refine X_region ?_
                  refine XL_det .no (D_pure rfl) rfl ?_
                  refine XL_callk .no en_19 rfl (slive c s2) (by repeat first | with_reducible exact .nil _ | with_reducible exact .here _ _ | with_reducible exact Take.self _ | with_reducible apply Take.cons | with_reducible apply Out.there | with_reducible apply Take.skip | with_reducible exact Take.pre _ _ | with_reducible apply Out.app) rfl ?_
                  refine XL_det .no (D_pure rfl) rfl ?_
                  refine XL_then ?_
                  refine X_seq ?_
                  refine X_region ?_
                  refine XL_det .no (D_pure rfl) rfl ?_
                  refine XL_call .no en_20 rfl (stick c s2 hW2.sys.ok hK) (by repeat first | with_reducible exact .nil _ | with_reducible exact .here _ _ | with_reducible exact Take.self _ | with_reducible apply Take.cons | with_reducible apply Out.there | with_reducible apply Take.skip | with_reducible exact Take.pre _ _ | with_reducible apply Out.app) rfl ?_
                  rintro _ _ ⟨rfl, rfl⟩
                  simp only [List.cons_append, List.nil_append]
                  refine XL_alloc .no zero_53 rfl (fun b4 => ?_)
                  refine XL_efd .no (F_stw rfl rfl rfl (by repeat first | with_reducible exact .here _ _ | with_reducible apply Out.there | with_reducible apply Out.app) tk_53 rfl rfl) ?_
                  refine XL_then ?_
                  refine X_seq ?_
                  refine X_region ?_
                  refine XL_det .no (D_pure rfl) rfl ?_
                  refine XL_then ?_
                  refine X_block ?_
                  rw [show rowI 16 wt2 = rowI 16 (bump s2.live (tickC s2).2.task wt2 0) from by rw [bump_0]]
                  refine X_loop (α := Nat) (fun w => w ≤ 16) (fun w => [(13, .int .i64 (w : Int)), (1, .slice l.oad l.l.length l.c), (2, .pointer (some ⟨b1, 0, none⟩)), (5, .pointer (some ⟨c, 0, none⟩)), (6, .pointer (some ⟨b2, 0, none⟩)), (7, .int .i64 (i : Int)), (8, .pointer (some ⟨b3, 0, none⟩)), (10, .int .i64 (n : Int)), (11, .int .u32 s2.live.toNat), (12, .pointer (some ⟨b4, 0, none⟩))]) (fun w => [blk b1 [.int .i64 x.res, .slice x.tasks.oad x.tasks.l.length x.tasks.c, .slice x.modes.oad x.modes.l.length x.modes.c, .slice x.edges.oad x.edges.l.length x.edges.c] 26, blk c (crC ((tickC s2).1)) 110, many 16 (rowS (tickC s2).1.jf), blk b2 (rowI 16 (bump s2.live (tickC s2).2.task wt2 w)) 38, blk b3 (encOp o) 41, blk b4 (encR (tickC s2).2) 53, K, Ki]) (fun w => 16 - w) 0 ?_ (by refine ⟨?_, ?_, ?_, ?_, ?_, ?_, ?_, ?_, ?_, ?_, trivial⟩ <;> rfl) (by repeat first | with_reducible exact .nil _ | with_reducible exact .here _ _ | with_reducible exact Take.self _ | with_reducible apply Take.cons | with_reducible apply Out.there | with_reducible apply Take.skip | with_reducible exact Take.pre _ _ | with_reducible apply Out.app) ?_
                  · omega
                  · rintro w hw
                    refine X_seq ?_
                    refine X_seq ?_
                    refine X_region ?_
                    refine XL_det .no (D_pure rfl) rfl ?_
                    refine XL_det .no (D_pure rfl) rfl ?_
                    refine XL_then ?_
                    refine X_cond rfl (fun h8 => ?_) (fun h8 => ?_)
                    · try simp only [decide_eq_true_eq, decide_eq_false_iff_not, Bool.not_eq_true', Bool.not_eq_false', beq_iff_eq, bne_iff_ne, beq_eq_false_iff_ne, bne_eq_false_iff_eq, Int.not_lt, Int.not_le, gt_iff_lt, ge_iff_le, ne_eq] at h8
                      have hw16 : w < 16 := by omega
                      have hbe := bump_at (lv := s2.live) (task := (tickC s2).2.task) (wt := wt2) (n := w)
                      have hb0 := hW2.w0 w
                      have hb1 : wt2 w ≤ blkN x.tasks.l allS allS w 8 := hW2.wb w hw16
                      have hb2 := blkN_in (h := allS) (c := allS) (w := w) hT 8 (by decide)
                      refine X_skip ?_
                      refine thenX_normal ?_
                      refine X_seq ?_
                      refine X_block ?_
                      refine X_seqj (α := Unit) (fun _ => True) (fun _ => [(1, .slice l.oad l.l.length l.c), (2, .pointer (some ⟨b1, 0, none⟩)), (5, .pointer (some ⟨c, 0, none⟩)), (6, .pointer (some ⟨b2, 0, none⟩)), (7, .int .i64 (i : Int)), (8, .pointer (some ⟨b3, 0, none⟩)), (10, .int .i64 (n : Int)), (11, .int .u32 s2.live.toNat), (12, .pointer (some ⟨b4, 0, none⟩)), (13, .int .i64 (w : Int))]) (fun _ => [blk b1 [.int .i64 x.res, .slice x.tasks.oad x.tasks.l.length x.tasks.c, .slice x.modes.oad x.modes.l.length x.modes.c, .slice x.edges.oad x.edges.l.length x.edges.c] 26, blk c (crC ((tickC s2).1)) 110, many 16 (rowS (tickC s2).1.jf), blk b2 (rowI 16 (bump s2.live (tickC s2).2.task wt2 (w + 1))) 38, blk b3 (encOp o) 41, blk b4 (encR (tickC s2).2) 53, K, Ki]) ?_ ?_
                      · skip
                        refine X_seq ?_
                        refine X_region ?_
                        refine XL_det .no (D_pure rfl) rfl ?_
                        refine XL_det .no (D_pure rfl) rfl ?_
                        refine XL_callv .no en_21 rfl (mHas s2.live w) rfl ?_
                        refine XL_det .no (D_pure rfl) rfl ?_
                        refine XL_split (t := 97) rfl (fun h9 => ?_) (fun h9 => ?_)
                        · try simp only [decide_eq_true_eq, decide_eq_false_iff_not, Bool.not_eq_true', Bool.not_eq_false', beq_iff_eq, bne_iff_ne, beq_eq_false_iff_ne, bne_eq_false_iff_eq, Int.not_lt, Int.not_le, gt_iff_lt, ge_iff_le, ne_eq] at h9
                          refine XL_det (.yes 97 rfl rfl rfl) (D_fld rfl fld_53_0 (o' := 0) rfl) rfl ?_
                          refine XL_det (.yes 97 rfl rfl rfl) (D_ldo (v := .int .i64 (tickC s2).2.task) rfl (by repeat first | with_reducible exact .here _ _ | with_reducible apply Out.there | with_reducible apply Out.app) tk_3 (by rfl)) rfl ?_
                          refine XL_det (.yes 97 rfl rfl rfl) (D_pure rfl) rfl ?_
                          refine XL_det (.yes 97 rfl rfl rfl) (D_pure rfl) rfl ?_
                          refine XL_det .no (D_pure rfl) rfl ?_
                          refine XL_then ?_
                          refine X_cond rfl (fun h10 => ?_) (fun h10 => ?_)
                          · try simp only [decide_eq_true_eq, decide_eq_false_iff_not, Bool.not_eq_true', Bool.not_eq_false', beq_iff_eq, bne_iff_ne, beq_eq_false_iff_ne, bne_eq_false_iff_eq, Int.not_lt, Int.not_le, gt_iff_lt, ge_iff_le, ne_eq] at h10
                            refine X_region ?_
                            refine XL_det .no (D_pure rfl) rfl ?_
                            refine XL_det .no (D_idxA rfl rfl arr_38 rfl (by omega) rfl) rfl ?_
                            refine XL_det .no (D_ldo rfl (by repeat first | with_reducible exact .here _ _ | with_reducible apply Out.there | with_reducible apply Out.app) tk_3 (r16_get hw16)) rfl ?_
                            refine XL_det .no (D_add rfl rfl (by omega) (by omega)) rfl ?_
                            refine XL_det .no (D_idxA rfl rfl arr_38 rfl (by omega) rfl) rfl ?_
                            refine XL_efd .no (F_st (k := 0 + w * 1) (cs' := rowI 16 (upd (bump s2.live (tickC s2).2.task wt2 w) w (bump s2.live (tickC s2).2.task wt2 w w + 1))) rfl rfl rfl (by repeat first | with_reducible exact .here _ _ | with_reducible apply Out.there | with_reducible apply Out.app) tk_3 (r16_lt hw16) r16_set) ?_
                            refine XL_nil ?_
                            rw [bump_t h9 h10]
                            refine joinQ_normal () ?_ ?_ ?_
                            · trivial
                            · refine ⟨?_, ?_, ?_, ?_, ?_, ?_, ?_, ?_, ?_, ?_, trivial⟩ <;> rfl
                            · exact ⟨_, (by repeat first | with_reducible exact .nil _ | with_reducible exact .here _ _ | with_reducible exact Take.self _ | with_reducible apply Take.cons | with_reducible apply Out.there | with_reducible apply Take.skip | with_reducible exact Take.pre _ _ | with_reducible apply Out.app)⟩
                          · try simp only [decide_eq_true_eq, decide_eq_false_iff_not, Bool.not_eq_true', Bool.not_eq_false', beq_iff_eq, bne_iff_ne, beq_eq_false_iff_ne, bne_eq_false_iff_eq, Int.not_lt, Int.not_le, gt_iff_lt, ge_iff_le, ne_eq] at h10
                            refine X_skip ?_
                            rw [bump_f (lv := s2.live) (task := (tickC s2).2.task) (wt := wt2) (n := w) (fun q => absurd q.2 (by omega))]
                            refine joinQ_normal () ?_ ?_ ?_
                            · trivial
                            · refine ⟨?_, ?_, ?_, ?_, ?_, ?_, ?_, ?_, ?_, ?_, trivial⟩ <;> rfl
                            · exact ⟨_, (by repeat first | with_reducible exact .nil _ | with_reducible exact .here _ _ | with_reducible exact Take.self _ | with_reducible apply Take.cons | with_reducible apply Out.there | with_reducible apply Take.skip | with_reducible exact Take.pre _ _ | with_reducible apply Out.app)⟩
                        · try simp only [decide_eq_true_eq, decide_eq_false_iff_not, Bool.not_eq_true', Bool.not_eq_false', beq_iff_eq, bne_iff_ne, beq_eq_false_iff_ne, bne_eq_false_iff_eq, Int.not_lt, Int.not_le, gt_iff_lt, ge_iff_le, ne_eq] at h9
                          refine XL_skip 97 rfl rfl rfl rfl rfl ?_
                          refine XL_skip 97 rfl rfl rfl rfl rfl ?_
                          refine XL_skip 97 rfl rfl rfl rfl rfl ?_
                          refine XL_skip 97 rfl rfl rfl rfl rfl ?_
                          refine XL_det .no (D_pure rfl) rfl ?_
                          refine XL_then ?_
                          refine X_cond_f rfl rfl ?_
                          refine X_skip ?_
                          rw [bump_f (lv := s2.live) (task := (tickC s2).2.task) (wt := wt2) (n := w) (fun q => by rw [h9] at q; exact absurd q.1 (by decide))]
                          refine joinQ_normal () ?_ ?_ ?_
                          · trivial
                          · refine ⟨?_, ?_, ?_, ?_, ?_, ?_, ?_, ?_, ?_, ?_, trivial⟩ <;> rfl
                          · exact ⟨_, (by repeat first | with_reducible exact .nil _ | with_reducible exact .here _ _ | with_reducible exact Take.self _ | with_reducible apply Take.cons | with_reducible apply Out.there | with_reducible apply Take.skip | with_reducible exact Take.pre _ _ | with_reducible apply Out.app)⟩
                      · rintro _ _
                        refine X_seq ?_
                        refine X_draw [blk b2 (rowI 16 (bump s2.live (tickC s2).2.task wt2 (w + 1))) 38, blk b1 [.int .i64 x.res, .slice x.tasks.oad x.tasks.l.length x.tasks.c, .slice x.modes.oad x.modes.l.length x.modes.c, .slice x.edges.oad x.edges.l.length x.edges.c] 26] mixed (by repeat first | with_reducible exact .nil _ | with_reducible exact .here _ _ | with_reducible exact Take.self _ | with_reducible apply Take.cons | with_reducible apply Out.there | with_reducible apply Take.skip | with_reducible exact Take.pre _ _ | with_reducible apply Out.app) ?_
                        refine XA_detp 0 rfl (by kernel_rfl) (by kernel_rfl) (by kernel_rfl) (fun _ _ _ _ h => h) .no (D_pureP rfl) rfl ?_
                        refine XA_detp 1 rfl (by kernel_rfl) (by kernel_rfl) (by kernel_rfl) (fun _ _ _ _ h => h) .no (D_idxAP rfl rfl arr_38 rfl (by omega) rfl) rfl ?_
                        refine XA_det 2 rfl (by kernel_rfl) (by kernel_rfl) (by kernel_rfl) (by kernel_rfl) (fun _ _ _ _ h => h) .no (D_ldo rfl (by repeat first | with_reducible exact .here _ _ | with_reducible apply Out.there | with_reducible apply Out.app) tk_3 (r16_get hw16)) rfl ?_
                        refine XA_det 3 rfl (by kernel_rfl) (by kernel_rfl) (by kernel_rfl) (by kernel_rfl) (fun _ _ _ _ h => h) .no (D_ldso (vs := [.int .i64 x.res, .slice x.tasks.oad x.tasks.l.length x.tasks.c, .slice x.modes.oad x.modes.l.length x.modes.c, .slice x.edges.oad x.edges.l.length x.edges.c]) rfl (by repeat first | with_reducible exact .here _ _ | with_reducible apply Out.there | with_reducible apply Out.app) tk_26 rfl (by rfl)) rfl ?_
                        refine XA_detp 4 rfl (by kernel_rfl) (by kernel_rfl) (by kernel_rfl) (fun _ _ _ _ h => h) .no (D_pureP rfl) rfl ?_
                        refine XA_one 5 (by kernel_rfl) ?_
                        refine XO_callk rfl .no en_22 rfl (by repeat first | with_reducible exact .nil _ | with_reducible apply App.cons) (rblock x hx hR allS allS w hw16) (by repeat first | with_reducible exact .nil _ | with_reducible exact .here _ _ | with_reducible exact Take.self _ | with_reducible apply Take.cons | with_reducible apply Out.there | with_reducible apply Take.skip | with_reducible exact Take.pre _ _ | with_reducible apply Out.app) rfl ?_
                        refine XA_detp 6 rfl (by kernel_rfl) (by kernel_rfl) (by kernel_rfl) (fun _ _ _ _ h => h) .no (D_pureP rfl) rfl ?_
                        refine XA_done (by kernel_rfl) ?_
                        try simp only [List.cons_append, List.nil_append, List.append_nil]
                        refine thenX_normal ?_
                        refine X_cond rfl (fun h11 => ?_) (fun h11 => ?_)
                        · try simp only [decide_eq_true_eq, decide_eq_false_iff_not, Bool.not_eq_true', Bool.not_eq_false', beq_iff_eq, bne_iff_ne, beq_eq_false_iff_ne, bne_eq_false_iff_eq, Int.not_lt, Int.not_le, gt_iff_lt, ge_iff_le, ne_eq] at h11
                          exfalso; have q := hWt.wb w hw16; rw [bump_in hw16 (show w < w + 1 by omega)] at q; omega
                        · try simp only [decide_eq_true_eq, decide_eq_false_iff_not, Bool.not_eq_true', Bool.not_eq_false', beq_iff_eq, bne_iff_ne, beq_eq_false_iff_ne, bne_eq_false_iff_eq, Int.not_lt, Int.not_le, gt_iff_lt, ge_iff_le, ne_eq] at h11
                          refine X_skip ?_
                          refine inBlk_normal ?_
                          refine thenX_normal ?_
                          refine X_region ?_
                          refine XL_det .no (D_pure rfl) rfl ?_
                          refine XL_det .no (D_add rfl rfl (by omega) (by omega)) rfl ?_
                          refine XL_det .no (D_pure rfl) rfl ?_
                          refine XL_nil ?_
                          refine loopQ_next (w + 1) ?_ ?_ ?_ ?_
                          · omega
                          · omega
                          · refine ⟨?_, ?_, ?_, ?_, ?_, ?_, ?_, ?_, ?_, ?_, trivial⟩ <;> rfl
                          · exact ⟨_, (by repeat first | with_reducible exact .nil _ | with_reducible exact .here _ _ | with_reducible exact Take.self _ | with_reducible apply Take.cons | with_reducible apply Out.there | with_reducible apply Take.skip | with_reducible exact Take.pre _ _ | with_reducible apply Out.app)⟩
                    · try simp only [decide_eq_true_eq, decide_eq_false_iff_not, Bool.not_eq_true', Bool.not_eq_false', beq_iff_eq, bne_iff_ne, beq_eq_false_iff_ne, bne_eq_false_iff_eq, Int.not_lt, Int.not_le, gt_iff_lt, ge_iff_le, ne_eq] at h8
                      obtain rfl : w = 16 := by omega
                      refine X_exit ?_
                      refine thenX_exit ?_
                      refine loopQ_exit ?_
                      refine inBlk_here ?_
                      refine inBlk_normal ?_
                      refine thenX_normal ?_
                      refine X_region ?_
                      refine XL_det .no (D_pure rfl) rfl ?_
                      refine XL_det .no (D_add rfl rfl (by omega) (by omega)) rfl ?_
                      refine XL_det .no (D_pure rfl) rfl ?_
                      refine XL_nil ?_
                      refine loopQ_next (n + 1, (tickC s2).1, bump s2.live (tickC s2).2.task wt2 16) ?_ ?_ ?_ ?_
                      · (try dsimp only); exact ⟨by omega, hWt, by rw [tick_now]; omega⟩
                      · (try dsimp only); omega
                      · refine ⟨?_, ?_, ?_, ?_, ?_, ?_, ?_, trivial⟩ <;> rfl
                      · (try dsimp only); exact ⟨_, (by repeat first | with_reducible exact .nil _ | with_reducible exact .here _ _ | with_reducible exact Take.self _ | with_reducible apply Take.cons | with_reducible apply Out.there | with_reducible apply Take.skip | with_reducible exact Take.pre _ _ | with_reducible apply Out.app)⟩
                · try simp only [decide_eq_true_eq, decide_eq_false_iff_not, Bool.not_eq_true', Bool.not_eq_false', beq_iff_eq, bne_iff_ne, beq_eq_false_iff_ne, bne_eq_false_iff_eq, Int.not_lt, Int.not_le, gt_iff_lt, ge_iff_le, ne_eq] at h7
                  refine X_exit ?_
                  refine thenX_exit ?_
                  refine loopQ_exit ?_
                  refine inBlk_here ?_
                  refine inBlk_normal ?_
                  refine thenX_normal ?_
                  refine X_region ?_
                  refine XL_det .no (D_pure rfl) rfl ?_
                  refine XL_det .no (D_add rfl rfl (by omega) (by omega)) rfl ?_
                  refine XL_det .no (D_pure rfl) rfl ?_
                  refine XL_nil ?_
                  refine loopQ_next (i + 1, s2, wt2) ?_ ?_ ?_ ?_
                  · (try dsimp only); exact ⟨by omega, hW2, by omega⟩
                  · (try dsimp only); omega
                  · refine ⟨?_, ?_, ?_, ?_, ?_, trivial⟩ <;> rfl
                  · (try dsimp only); exact ⟨_, (by repeat first | with_reducible exact .nil _ | with_reducible exact .here _ _ | with_reducible exact Take.self _ | with_reducible apply Take.cons | with_reducible apply Out.there | with_reducible apply Take.skip | with_reducible exact Take.pre _ _ | with_reducible apply Out.app)⟩
          · try simp only [decide_eq_true_eq, decide_eq_false_iff_not, Bool.not_eq_true', Bool.not_eq_false', beq_iff_eq, bne_iff_ne, beq_eq_false_iff_ne, bne_eq_false_iff_eq, Int.not_lt, Int.not_le, gt_iff_lt, ge_iff_le, ne_eq] at h4
            refine X_exit ?_
            refine thenX_exit ?_
            refine loopQ_exit ?_
            refine inBlk_here ?_
            refine thenX_normal ?_
            refine X_seq ?_
            refine X_region ?_
            refine XL_callk .no en_23 rfl (alive26 hK) (by repeat first | with_reducible exact .nil _ | with_reducible exact .here _ _ | with_reducible exact Take.self _ | with_reducible apply Take.cons | with_reducible apply Out.there | with_reducible apply Take.skip | with_reducible exact Take.pre _ _ | with_reducible apply Out.app) rfl ?_
            refine XL_det .no (D_pure rfl) rfl ?_
            refine XL_then ?_
            refine X_ret ?_
            refine ret_ok (.nil _) (res_tmp rfl rfl) ?_
            exact ⟨[K, Ki], ⟨rfl, rfl⟩, _, (by repeat first | with_reducible exact .nil _ | with_reducible exact .here _ _ | exact .here _ _ | with_reducible exact Take.self _ | with_reducible apply Take.cons | with_reducible apply Out.there | with_reducible apply Take.skip | with_reducible exact Take.pre _ _ | with_reducible apply Out.app)⟩

end Go.Proofs.YtkkdchgnknpceaaDoor
end

section
namespace Go.Proofs.YtkkdchgnknpceaaDoor
open Go Go.Sl Go.ChangeShapes Go.WideShapes Go.ChangeAt Go.RowKit
set_option linter.unusedVariables false
abbrev tabT : Nat := 154
theorem ui_int : Tryd.prog.underlying 3 = some (.int .i64) := by kernel_rfl
theorem eqk_164 : eqKinds Tryd.prog 12 164 = some [some .i64, some .i64] := by kernel_rfl
theorem eqk_168 : eqKinds Tryd.prog 12 168 = some [some .i64, some .i64, some .i64, some .i64, some .i64, some .i64, some .i64, some .i64, some .i64, some .i64, some .i64, some .i64, some .i64, some .i64, some .i64, some .i64, some .i64, some .i64, some .i64, some .i64, some .i64, some .i64, some .i64] := by kernel_rfl
theorem eqk_48 : eqKinds Tryd.prog 12 48 = some [some .i64, some .i64, some .i64, some .i64, some .i64, some .i64, some .i64, some .i64, some .i64, some .i64, some .i64] := by kernel_rfl

theorem sz_task : (Tryd.prog.info? 48).map (·.size) = some 11 := by kernel_rfl
theorem sz_edge : (Tryd.prog.info? 168).map (·.size) = some 23 := by kernel_rfl
theorem sz_q : (Tryd.prog.info? 164).map (·.size) = some 2 := by kernel_rfl
theorem sl_tasks : slcOf Tryd.prog 22 = some (48, 11) := by kernel_rfl
theorem sl_modes : slcOf Tryd.prog 23 = some (101, 2) := by kernel_rfl
theorem sl_edges : slcOf Tryd.prog 24 = some (168, 23) := by kernel_rfl
theorem sl_qs : slcOf Tryd.prog 99 = some (164, 2) := by kernel_rfl
theorem shp_img : shp Tryd.prog 26 = some [3, 22, 23, 24] := by kernel_rfl
theorem shp_mode : shp Tryd.prog 101 = some [36, 99] := by kernel_rfl
theorem ui_u32 : Tryd.prog.underlying 36 = some (.int .u32) := by kernel_rfl
/-- The fields' bounds. -/
def okT (e : Nat → Int) : Prop := fitK e 0 [some .i64, some .i64, some .i64, some .i64, some .i64, some .i64, some .i64, some .i64, some .i64, some .i64, some .i64]
def okE (e : Nat → Int) : Prop := fitK e 0 [some .i64, some .i64, some .i64, some .i64, some .i64, some .i64, some .i64, some .i64, some .i64, some .i64, some .i64, some .i64, some .i64, some .i64, some .i64, some .i64, some .i64, some .i64, some .i64, some .i64, some .i64, some .i64, some .i64]
structure Img.Ok (x : Img) : Prop where
  tasks : ∀ e ∈ x.tasks.l, okT e
  edges : ∀ e ∈ x.edges.l, okE e
theorem openImg {W : World} {v : Value} (h : ArgOk Tryd.prog W 26 v) : ∃ x : Img, v = x.v ∧ x.In (old (B := W.heap.size) W) ∧ x.Ok := by
  obtain ⟨H, enc, cs, rfl, p0, q0, rfl, ⟨n0, x0, h0⟩, p1, q1, rfl, ⟨n1, x1, h1⟩, p2, q2, rfl, ⟨n2, x2, h2⟩, p3, q3, rfl, ⟨n3, x3, h3⟩, rfl⟩ := arg_struct shp_img h
  obtain ⟨res, rfl, _, _⟩ := DataW.trod_int ui_int h0
  obtain ⟨ta, rfl, t1, t2⟩ := Arr.of_trod (encA := encT) (ok := okT) sl_tasks (by decide) h1 (fun n cs x hx => flat_dec eqk_48 sz_task hx)
  obtain ⟨ed, rfl, e1, e2⟩ := Arr.of_trod (encA := encE) (ok := okE) sl_edges (by decide) h3 (fun n cs x hx => flat_dec eqk_168 sz_edge hx)
  obtain ⟨mo, rfl, m1, m2⟩ := Arr.of_trod (encA := encM) (ok := fun m => Rd (old (B := W.heap.size) W) m.q.ad (m.q.l.flatMap encQ)) sl_modes (by decide) h2 (fun n cs x hx => by
    obtain ⟨p0, q0, rfl, ⟨n0, x0, h0⟩, p1, q1, rfl, ⟨n1, x1, h1⟩, rfl⟩ := struct_parts shp_mode hx
    obtain ⟨b, rfl, _, hb⟩ := DataW.trod_int ui_u32 h0
    obtain ⟨b, rfl⟩ := u32_bv hb
    obtain ⟨q, rfl, _, q2⟩ := Arr.of_trod (encA := encQ) (ok := fun _ => True) sl_qs (by decide) h1 (fun n cs x hx => by
      obtain ⟨e, he, _⟩ := flat_dec eqk_164 sz_q hx
      exact ⟨e, he, trivial⟩)
    exact ⟨⟨b, q⟩, rfl, q2⟩)
  exact ⟨⟨res, ta, mo, ed⟩, rfl, ⟨t2, m2, e2, m1⟩, ⟨t1, e1⟩⟩
theorem sz_sec : (Tryd.prog.info? 123).map (·.size) = some 3 := by kernel_rfl
theorem sl_secs : slcOf Tryd.prog 39 = some (123, 3) := by kernel_rfl
theorem sl_ops : slcOf Tryd.prog 27 = some (41, 5) := by kernel_rfl
theorem shp_op : shp Tryd.prog 41 = some [3, 3, 3, 37, 39] := by kernel_rfl
theorem ui_set : Tryd.prog.underlying 37 = some (.int .u32) := by kernel_rfl
theorem openOps {W : World} {v : Value} (h : ArgOk Tryd.prog W 27 v) : ∃ l : Arr OpS, v = .slice l.oad l.l.length l.c ∧ OpsIn (old (B := W.heap.size) W) l := by
  obtain ⟨l, rfl, h1, h2⟩ := arg_arr (encA := encOp) (ok := fun o => Rd (old (B := W.heap.size) W) o.secs.ad (o.secs.l.flatMap encS)) sl_ops (by decide) h (fun n cs x hx => by
    obtain ⟨p0, q0, rfl, ⟨n0, x0, h0⟩, p1, q1, rfl, ⟨n1, x1, h1⟩, p2, q2, rfl, ⟨n2, x2, h2⟩, p3, q3, rfl, ⟨n3, x3, h3⟩, p4, q4, rfl, ⟨n4, x4, h4⟩, rfl⟩ := struct_parts shp_op hx
    obtain ⟨a, rfl, _, _⟩ := DataW.trod_int ui_int h0
    obtain ⟨b, rfl, _, _⟩ := DataW.trod_int ui_int h1
    obtain ⟨c, rfl, _, _⟩ := DataW.trod_int ui_int h2
    obtain ⟨z, rfl, _, hz⟩ := DataW.trod_int ui_set h3
    obtain ⟨z, rfl⟩ := u32_bv hz
    obtain ⟨q, rfl, _, q2⟩ := Arr.of_trod (encA := encS) (ok := fun _ => True) sl_secs (by decide) h4 (fun n cs x hx => by
      obtain ⟨e, he, _⟩ := flat_dec eqk_123 sz_sec hx
      exact ⟨(e 0, e 1, e 2), he, trivial⟩)
    exact ⟨⟨a, b, c, z, q⟩, rfl, q2⟩)
  exact ⟨l, rfl, h2, h1⟩

theorem own : ownKnob Tryd.prog.godebug = none := by kernel_rfl
theorem laidOut : laidOutB Tryd.prog = true := by kernel_rfl
abbrev laidT : List (String × DataW Unit) := [("math/bits.deBruijn32tab", Rows.laid_math_bits_deBruijn32tab)]
set_option maxRecDepth 100000 in
theorem laidTab {W : World} (h : laidMetH Tryd.prog laidT W) : Rd (old (B := W.heap.size) W) ⟨0, 0, none⟩ (tab32.map fun m => .int .u8 m) := by
  rw [MakeChecks.laidMetH_plain _ _ _ (by kernel_rfl)] at h
  rw [show laidT = [("math/bits.deBruijn32tab", .agg (tab32.map fun m => .lit (.int .u8 m)))] from by kernel_rfl] at h
  exact laid_row (tab := tab32) (t := tabT) (len := 32) (e := 5) (k := .u8) (by kernel_rfl) (by kernel_rfl) (by kernel_rfl) (by kernel_rfl) (by kernel_rfl) (by decide) h
theorem door_met (os : Os) (args : Array Value) : laidMetH Tryd.prog laidT ((World.doorLaid Tryd.prog 400 os).forCall (fun _ _ => 0) ⟨#[], args, []⟩).memory :=
  laidMetH_of_parts3 (fuel := 8) (laidMet_of_run' 8 (by kernel_rfl) (by kernel_rfl)) (by kernel_rfl) (by kernel_rfl)


set_option maxRecDepth 100000 in
/-- The walk, at the arguments as the row reads them. -/
theorem walkSchedWaits (W : World) (args : Array Value) (hL : laidMetH Tryd.prog laidT W) (h : ArgsOk Tryd.prog W Tryd.f3.params.toList args.toList) : Calls Tryd.prog 3 args W fun e w' => e = .returned (.bool true) ∧ Go.RowKit.Below W.heap.size W w' := by
  rw [show Tryd.f3.params.toList = [26, 27] from by kernel_rfl] at h
  obtain ⟨args⟩ := args
  match args, h with
  | [v0, v1], h =>
    have hK := laidTab hL
    obtain ⟨a0, a1, _⟩ := h
    obtain ⟨x, rfl, hx, _⟩ := openImg a0
    obtain ⟨l, rfl, hl⟩ := openOps a1
    exact calls_of (old_self W) (((schedWaits x hx l hl hK (old_dup W)).dup (.here _ _) (old_dup W)).mono fun _ _ h => h.1)

set_option maxRecDepth 100000 in
theorem liftedSchedWaits (os : Os) (started : os.Started) (H : Type) (enc : TypeId × Value → H) :
    ReturnsInHanded {} Tryd.checked os 3 .any (fun w args => (Rows.schedWaitsSpec.pre enc Tryd.prog Tryd.f3 [] false w args ∧ laidMetH Tryd.prog laidT w) ∧ sizedMet enc Tryd.prog Tryd.f3 (OpenSpec.ofChange Rows.schedWaitsSpec) false w args) (Rows.schedWaitsSpec.post enc Tryd.prog Tryd.f3 false true false false) :=
  handedL (C := Tryd.checked) (tb := 4) own started (by kernel_rfl) Tryd.func3 laidOut (by kernel_rfl) rfl
    (fun ds h => by
      have h : ds.length = 2 := h
      match ds, h with
      | [_, _], _ => exact ⟨rfl, rfl, rfl⟩) (by kernel_rfl) (by kernel_rfl)
    (ChangeSpec.witness_shaped (enc := enc) (C := Tryd.checked) (os := os) (X := fun w _ => laidMetH Tryd.prog laidT w) false (World.doorLaid Tryd.prog 400 os) #[.agg #[.int .i64 0, .slice none 0 0, .slice none 0 0, .slice none 0 0], .slice none 0 0] 8 rfl (World.shaped_of_RefB (by kernel_rfl) (by kernel_rfl)) (by kernel_rfl) (by kernel_rfl) (by kernel_rfl) (door_met os _))
    (fun W args hL h => walkSchedWaits W args hL h)

theorem overSchedWaits : Rows.SchedWaitsSaid :=
  OpenClaim.holds_of_wide 3 Tryd.f3 rfl rfl rfl rfl rfl rfl rfl ⟨rfl, rfl, rfl, rfl, rfl⟩ rfl rfl rfl rfl rfl (by kernel_rfl) Tryd.func3 (by kernel_rfl)
    (of_decide_eq_true (by kernel_rfl)) (by unfold Func.isWrapper; first | (rw [if_pos (by decide +kernel)]; kernel_rfl) | (rw [if_neg (by decide +kernel)]; exact ⟨rfl, rfl⟩))
    (fun os started H enc _ => liftedSchedWaits os started H enc)

/-- The statement: the tied card. -/
theorem provedSchedWaits : Rows.SchedWaitsCardSaid :=
  Claim7.holds_tied_plain_at .later [] [.data] true (true, "44ef1e1e002b38ac2d72adeff89b3beb5f1b36ff56efcca0884e0dc2dba73968") false
    overSchedWaits (fun _ h => by cases h) (by kernel_rfl) (fun _ h => by cases h) schedWaits_row_tie rfl ⟨rfl, rfl⟩ (by kernel_rfl) rfl
    (fun f fn hf hfn => by
      obtain rfl : f = 3 := Option.some.inj ((show Tryd.prog.funcNamed "remontoir/remontoirlaw26.SchedWaits" = some 3 by kernel_rfl).symm.trans hf) |>.symm
      obtain rfl : fn = Tryd.f3 := (Option.some.inj (Tryd.func3.symm.trans hfn)).symm
      exact ⟨by kernel_rfl, fun j t ht => by
        have ht : t ∈ Tryd.f3.params.toList := by simpa using Array.mem_of_getElem? ht
        rw [show Tryd.f3.params.toList = [26, 27] from by kernel_rfl] at ht
        have hall : ([26, 27].all fun u => !Tryd.prog.wantsStandIn u) = true := by kernel_rfl
        exact (show Tryd.prog.wantsStandIn t = false by simpa using List.all_eq_true.1 hall t ht)⟩)
    (by kernel_rfl)

#print axioms provedSchedWaits
end Go.Proofs.YtkkdchgnknpceaaDoor
end
