/- The given statement SemaPlaysCardSaid is proved: whatever tasks take, give back, wait for and quit, the semaphore tells who has how many, who waits and who is served next, and it is sound throughout. Conditions: at most 200 calls, as the statement itself says them; none beside. -/
import Derived.Test.YtdimcgedcndndaaDoorSemaPlaysP1
import Derived.KernelRfl
import Derived.Test.YtdimcgedcndndaaDoorProg
import Derived.Test.YtdimcgedcndndaaDoorRows
import Derived.Test.YtdimcgedcndndaaDoorTie
import Derived.Test.YtdimcgedcndndaaDoorCards
import Derived.SevenTiedAt
import Derived.LaidMore
section
namespace Go.Proofs.YtdimcgedcndndaaDoor
open Go Go.Sl
set_option linter.unusedVariables false
set_option linter.unusedSimpArgs false
set_option maxRecDepth 4000
variable {B : Nat} {K : Asrt B}
theorem bld_129 : bldOf Tryd.prog 129 = some ([.int .i64 0, .int .i64 0, .int .i64 0, .int .i64 0, .int .i64 0, .int .i64 0, .int .i64 0, .int .i64 0, .int .i64 0, .int .i64 0, .int .i64 0, .int .i64 0, .int .i64 0, .int .i64 0, .int .i64 0, .int .i64 0, .int .i64 0, .int .i64 0, .int .u32 0], [(0, 1), (1, 1), (2, 16), (18, 1)]) := by kernel_rfl
theorem bld_73 : bldOf Tryd.prog 73 = some ([.int .i64 0, .int .i64 0, .int .i64 0, .int .i64 0, .int .i64 0, .int .i64 0, .int .i64 0, .int .i64 0, .int .i64 0, .int .i64 0, .int .i64 0, .int .i64 0, .int .i64 0, .int .i64 0, .int .i64 0, .int .i64 0, .int .i64 0, .slice none 0 0], [(0, 1), (1, 16), (17, 1)]) := by kernel_rfl
theorem en_27 : Go.Proofs.Enters Tryd.prog 27 := Go.Proofs.enters_of Tryd.func27 (by kernel_rfl) rfl
theorem en_28 : Go.Proofs.Enters Tryd.prog 28 := Go.Proofs.enters_of Tryd.func28 (by kernel_rfl) rfl
theorem en_34 : Go.Proofs.Enters Tryd.prog 34 := Go.Proofs.enters_of Tryd.func34 (by kernel_rfl) rfl
theorem en_35 : Go.Proofs.Enters Tryd.prog 35 := Go.Proofs.enters_of Tryd.func35 (by kernel_rfl) rfl
theorem en_36 : Go.Proofs.Enters Tryd.prog 36 := Go.Proofs.enters_of Tryd.func36 (by kernel_rfl) rfl
theorem en_37 : Go.Proofs.Enters Tryd.prog 37 := Go.Proofs.enters_of Tryd.func37 (by kernel_rfl) rfl
theorem en_38 : Go.Proofs.Enters Tryd.prog 38 := Go.Proofs.enters_of Tryd.func38 (by kernel_rfl) rfl
theorem en_39 : Go.Proofs.Enters Tryd.prog 39 := Go.Proofs.enters_of Tryd.func39 (by kernel_rfl) rfl
theorem en_41 : Go.Proofs.Enters Tryd.prog 41 := Go.Proofs.enters_of Tryd.func41 (by kernel_rfl) rfl
theorem fld_75_0 : fldOff Tryd.prog 75 0 = some 0 := by kernel_rfl
theorem fld_75_1 : fldOff Tryd.prog 75 1 = some 1 := by kernel_rfl
theorem ptr_68 : isPtrT Tryd.prog 68 = true := by kernel_rfl
theorem slc_67 : slcOf Tryd.prog 67 = some (75, 2) := by kernel_rfl
theorem ub_4 : Tryd.prog.underlying 4 = some .bool := by kernel_rfl

abbrev z1 : Se := ⟨1, fun _ => 0, 0#32⟩
abbrev z2 : Se := getU z1 2
abbrev z3 : Se := getU z2 1
abbrev z4 : Se := putU z3 2
theorem sumH_zero : ∀ n, sumH (fun _ => 0) n = 0
  | 0 => rfl
  | n + 1 => by rw [sumH, sumH_zero n]; rfl
theorem ok_new {m : Int} (h : 1 ≤ m) : Se.Ok ⟨m, fun _ => 0, 0#32⟩ m := ⟨by show 0 ≤ m; omega, fun _ => Int.le_refl _, by show m + sumH (fun _ => 0) 16 = m; rw [sumH_zero]; omega, .inr rfl, fun i h => by
  have h : hasB 0#32 i = true := h
  simp [hasB] at h⟩
theorem z1g : getO z1 2 = true ∧ getE z1 2 = 0 := ⟨by kernel_rfl, by kernel_rfl⟩
theorem z2g : getO z2 1 = false ∧ getE z2 1 = 0 := ⟨by kernel_rfl, by kernel_rfl⟩
theorem z3p : putN z3 2 = 1 ∧ putO z3 2 = true ∧ putE z3 2 = 0 := ⟨by kernel_rfl, by kernel_rfl, by kernel_rfl⟩
theorem endS_ok {σ : Se} {m t : Int} (h : σ.Ok m) : (endS σ t).1.Ok m := end_ok _ _ _ (quit_ok h)
theorem endR_len (t : Int) : ∀ (n : Nat) (σ : Se) (out : List Int), (endR t n σ out).2.length ≤ out.length + n
  | 0, σ, out => Nat.le_refl _
  | n + 1, σ, out => by
    have := endR_len t n (putU σ t) (if putO σ t then out ++ [putN σ t] else out)
    rw [endR]; split at this
    · rw [List.length_append] at this; simp only [List.length_singleton] at this; rw [if_pos (by assumption)]; omega
    · rw [if_neg (by assumption)]; omega
theorem endS_len {σ : Se} {m t : Int} (h : σ.Ok m) (hm : m ≤ 65536) : (endS σ t).2.length ≤ 65536 := by
  have h1 := endR_len t (endN σ t) (quitU σ t) []
  have h2 := (EndI.start (t := t) h hm).len
  unfold endS; simp only [List.length_nil] at h1 h2; omega
theorem quit_list {σ : Se} {w x : Arr Int} {t : Int} (hw : w.l = listI σ.W) (hx : x.l = w.l.filter fun y => decide (y ≠ t)) : x.l = listI (quitU σ t).W := by
  rw [hx, hw]; exact (list_without _ _).symm
theorem in_has {w : Arr Int} {σ : Se} {t : Int} (hw : w.l = listI σ.W) : decide (t ∈ w.l) = hasB σ.W t := by
  rw [Bool.eq_iff_iff, decide_eq_true_eq, hw]; exact mem_hasB
theorem ofI_listI (s : BitVec 32) : ofI (listI s) = s := hasB_ext fun i hi => by
  rw [hasB_ofI _ _ hi, Bool.eq_iff_iff, decide_eq_true_eq]; exact mem_hasB
theorem tmod7 (x : Int) : -7 < Int.tmod x 7 ∧ Int.tmod x 7 < 7 := by
  rcases (by omega : x < 0 ∨ 0 ≤ x) with h | h
  · have := Int.tmod_eq_emod_of_nonneg (a := -x) (b := 7) (by omega)
    rw [Int.neg_tmod] at this; omega
  · have := Int.tmod_eq_emod_of_nonneg (a := x) (b := 7) h; omega
structure OpE where
  k : Int
  t : Int
abbrev encO (o : OpE) : List Value := [.int .i64 o.k, .int .i64 o.t]

theorem snew1 (m : Int) (h1 : 1 ≤ m) (hm : m ≤ 65536) : Ctr Tryd.prog B 27 [.int .i64 m] [] (fun v S => ∃ b, v = .tuple #[.pointer (some ⟨b, 0, none⟩), .int .i64 0] ∧ S = [blk b (sc ⟨m, fun _ => 0, 0#32⟩ m) 129]) := by
  refine Ctr_of_X (N := 14) Tryd.func27 rfl (by simp) rfl ?_
  intro w0 D0
  refine X_seq ?_
  refine X_region ?_
  refine XL_det .no (D_pure rfl) rfl ?_
  refine XL_det .no (D_pure rfl) rfl ?_
  refine XL_then ?_
  refine X_seq ?_
  refine X_seq ?_
  refine X_region ?_
  refine XL_det .no (D_pure rfl) rfl ?_
  refine XL_det .no (D_pure rfl) rfl ?_
  refine XL_det .no (D_pure rfl) rfl ?_
  refine XL_split (t := 6) rfl (fun h1 => ?_) (fun h1 => ?_)
  · try simp only [decide_eq_true_eq, decide_eq_false_iff_not, Bool.not_eq_true', Bool.not_eq_false', beq_iff_eq, bne_iff_ne, beq_eq_false_iff_ne, bne_eq_false_iff_eq, Int.not_lt, Int.not_le, gt_iff_lt, ge_iff_le, ne_eq] at h1
    omega
  · try simp only [decide_eq_true_eq, decide_eq_false_iff_not, Bool.not_eq_true', Bool.not_eq_false', beq_iff_eq, bne_iff_ne, beq_eq_false_iff_ne, bne_eq_false_iff_eq, Int.not_lt, Int.not_le, gt_iff_lt, ge_iff_le, ne_eq] at h1
    refine XL_det (.yes 6 rfl rfl rfl) (D_pure rfl) rfl ?_
    refine XL_det (.yes 6 rfl rfl rfl) (D_pure rfl) rfl ?_
    refine XL_det .no (D_pure rfl) rfl ?_
    refine XL_then ?_
    refine X_cond rfl (fun h2 => ?_) (fun h2 => ?_)
    · try simp only [decide_eq_true_eq, decide_eq_false_iff_not, Bool.not_eq_true', Bool.not_eq_false', beq_iff_eq, bne_iff_ne, beq_eq_false_iff_ne, bne_eq_false_iff_eq, Int.not_lt, Int.not_le, gt_iff_lt, ge_iff_le, ne_eq] at h2
      omega
    · try simp only [decide_eq_true_eq, decide_eq_false_iff_not, Bool.not_eq_true', Bool.not_eq_false', beq_iff_eq, bne_iff_ne, beq_eq_false_iff_ne, bne_eq_false_iff_eq, Int.not_lt, Int.not_le, gt_iff_lt, ge_iff_le, ne_eq] at h2
      refine X_skip ?_
      refine thenX_normal ?_
      refine X_seq ?_
      refine X_region ?_
      refine XL_det .no (D_pure rfl) rfl ?_
      refine XL_det .no (D_pure rfl) rfl ?_
      refine XL_det .no (D_build [_, _, _, _, _, _, _, _, _, _, _, _, _, _, _, _, _, _, _] rfl bld_129 (by rfl)) rfl ?_
      refine XL_box (cs := sc ⟨m, fun _ => 0, 0#32⟩ m) .no rfl rfl rfl (fun b1 => ?_)
      refine XL_det .no (D_pure rfl) rfl ?_
      refine XL_det .no (D_pure rfl) rfl ?_
      refine XL_then ?_
      refine X_ret ?_
      refine ret_ok (.nil _) (res_tmp2 rfl rfl rfl) ?_
      exact ⟨[blk b1 (sc ⟨m, fun _ => 0, 0#32⟩ m) 129], ⟨b1, rfl, rfl⟩, _, (by repeat first | with_reducible exact .nil _ | with_reducible exact .here _ _ | with_reducible exact Take.self _ | with_reducible apply Take.cons | with_reducible apply Out.there | with_reducible apply Take.skip | with_reducible exact Take.pre _ _ | with_reducible apply Out.app)⟩

theorem snew0 (m : Int) (hm : m < 1 ∨ 65536 < m) : Ctr Tryd.prog B 27 [.int .i64 m] [] (fun v S => v = .tuple #[.pointer none, .int .i64 64] ∧ S = []) := by
  refine Ctr_of_X (N := 14) Tryd.func27 rfl (by simp) rfl ?_
  intro w0 D0
  refine X_seq ?_
  refine X_region ?_
  refine XL_det .no (D_pure rfl) rfl ?_
  refine XL_det .no (D_pure rfl) rfl ?_
  refine XL_then ?_
  refine X_seq ?_
  refine X_seq ?_
  refine X_region ?_
  refine XL_det .no (D_pure rfl) rfl ?_
  refine XL_det .no (D_pure rfl) rfl ?_
  refine XL_det .no (D_pure rfl) rfl ?_
  refine XL_split (t := 6) rfl (fun h1 => ?_) (fun h1 => ?_)
  · try simp only [decide_eq_true_eq, decide_eq_false_iff_not, Bool.not_eq_true', Bool.not_eq_false', beq_iff_eq, bne_iff_ne, beq_eq_false_iff_ne, bne_eq_false_iff_eq, Int.not_lt, Int.not_le, gt_iff_lt, ge_iff_le, ne_eq] at h1
    refine XL_skip 6 rfl rfl rfl rfl rfl ?_
    refine XL_skip 6 rfl rfl rfl rfl rfl ?_
    refine XL_det .no (D_pure rfl) rfl ?_
    refine XL_then ?_
    refine X_cond_t rfl rfl ?_
    refine X_seq ?_
    refine X_region ?_
    refine XL_det .no (D_pure rfl) rfl ?_
    refine XL_det .no (D_pure rfl) rfl ?_
    refine XL_then ?_
    refine X_ret ?_
    refine thenX_ret ?_
    refine ret_ok (.nil _) (res_tmp2 rfl rfl rfl) ?_
    exact ⟨_, ⟨rfl, rfl⟩, _, (by repeat first | with_reducible exact .nil _ | with_reducible exact .here _ _ | with_reducible exact Take.self _ | with_reducible apply Take.cons | with_reducible apply Out.there | with_reducible apply Take.skip | with_reducible exact Take.pre _ _ | with_reducible apply Out.app)⟩
  · try simp only [decide_eq_true_eq, decide_eq_false_iff_not, Bool.not_eq_true', Bool.not_eq_false', beq_iff_eq, bne_iff_ne, beq_eq_false_iff_ne, bne_eq_false_iff_eq, Int.not_lt, Int.not_le, gt_iff_lt, ge_iff_le, ne_eq] at h1
    refine XL_det (.yes 6 rfl rfl rfl) (D_pure rfl) rfl ?_
    refine XL_det (.yes 6 rfl rfl rfl) (D_pure rfl) rfl ?_
    refine XL_det .no (D_pure rfl) rfl ?_
    refine XL_then ?_
    refine X_cond rfl (fun h2 => ?_) (fun h2 => ?_)
    · try simp only [decide_eq_true_eq, decide_eq_false_iff_not, Bool.not_eq_true', Bool.not_eq_false', beq_iff_eq, bne_iff_ne, beq_eq_false_iff_ne, bne_eq_false_iff_eq, Int.not_lt, Int.not_le, gt_iff_lt, ge_iff_le, ne_eq] at h2
      refine X_seq ?_
      refine X_region ?_
      refine XL_det .no (D_pure rfl) rfl ?_
      refine XL_det .no (D_pure rfl) rfl ?_
      refine XL_then ?_
      refine X_ret ?_
      refine thenX_ret ?_
      refine ret_ok (.nil _) (res_tmp2 rfl rfl rfl) ?_
      exact ⟨_, ⟨rfl, rfl⟩, _, (by repeat first | with_reducible exact .nil _ | with_reducible exact .here _ _ | with_reducible exact Take.self _ | with_reducible apply Take.cons | with_reducible apply Out.there | with_reducible apply Take.skip | with_reducible exact Take.pre _ _ | with_reducible apply Out.app)⟩
    · try simp only [decide_eq_true_eq, decide_eq_false_iff_not, Bool.not_eq_true', Bool.not_eq_false', beq_iff_eq, bne_iff_ne, beq_eq_false_iff_ne, bne_eq_false_iff_eq, Int.not_lt, Int.not_le, gt_iff_lt, ge_iff_le, ne_eq] at h2
      omega

theorem alive52 (hK : Rd K ⟨0, 0, none⟩ (tab32.map fun m => .int .u8 m)) : Ctr Tryd.prog B 28 [] [K] (fun v S => v = .bool true ∧ S = [K]) := by
  refine Ctr_of_X (N := 64) Tryd.func28 rfl (by simp) rfl ?_
  intro w0 D0
  refine X_seq ?_
  refine X_region ?_
  refine XL_det .no (D_pure rfl) rfl ?_
  refine XL_then ?_
  refine X_seq ?_
  refine X_region ?_
  refine XL_call .no en_27 rfl (snew1 1 (by decide) (by decide)) (by repeat first | with_reducible exact .nil _ | with_reducible exact .here _ _ | with_reducible exact Take.self _ | with_reducible apply Take.cons | with_reducible apply Out.there | with_reducible apply Take.skip | with_reducible exact Take.pre _ _ | with_reducible apply Out.app) rfl ?_
  rintro _ _ ⟨bp, rfl, rfl⟩
  simp only [List.cons_append, List.nil_append]
  refine XL_det .no (D_pure rfl) rfl ?_
  refine XL_det .no (D_pure rfl) rfl ?_
  refine XL_det .no (D_pure rfl) rfl ?_
  refine XL_det .no (D_pure rfl) rfl ?_
  refine XL_det .no (D_pure rfl) rfl ?_
  refine XL_then ?_
  refine X_seq ?_
  refine X_seq ?_
  refine X_region ?_
  refine XL_det .no (D_pure rfl) rfl ?_
  refine XL_det .no (D_pure (v := .bool false) rfl) rfl ?_
  refine XL_det .no (D_pure rfl) rfl ?_
  refine XL_det (.yes 16 rfl rfl rfl) (D_pure rfl) rfl ?_
  refine XL_det (.yes 16 rfl rfl rfl) (D_ptrnil rfl rfl ptr_68 rfl) rfl ?_
  refine XL_det .no (D_pure rfl) rfl ?_
  refine XL_then ?_
  refine X_cond_f rfl rfl ?_
  refine X_skip ?_
  refine thenX_normal ?_
  refine X_seq ?_
  refine X_region ?_
  refine XL_det .no (D_pure rfl) rfl ?_
  refine XL_call .no en_36 rfl (sget bp z1 1 (ok_new (by decide)) (by decide) 2) (by repeat first | with_reducible exact .nil _ | with_reducible exact .here _ _ | with_reducible exact Take.self _ | with_reducible apply Take.cons | with_reducible apply Out.there | with_reducible apply Take.skip | with_reducible exact Take.pre _ _ | with_reducible apply Out.app) rfl ?_
  rintro _ _ ⟨rfl, rfl⟩
  simp only [List.cons_append, List.nil_append]
  rw [z1g.1, z1g.2]
  refine XL_det .no (D_pure rfl) rfl ?_
  refine XL_det .no (D_pure rfl) rfl ?_
  refine XL_det .no (D_pure rfl) rfl ?_
  refine XL_det .no (D_pure rfl) rfl ?_
  refine XL_det .no (D_pure rfl) rfl ?_
  refine XL_then ?_
  refine X_seq ?_
  refine X_region ?_
  refine XL_det .no (D_pure rfl) rfl ?_
  refine XL_call .no en_36 rfl (sget bp z2 1 (get_ok (ok_new (by decide))) (by decide) 1) (by repeat first | with_reducible exact .nil _ | with_reducible exact .here _ _ | with_reducible exact Take.self _ | with_reducible apply Take.cons | with_reducible apply Out.there | with_reducible apply Take.skip | with_reducible exact Take.pre _ _ | with_reducible apply Out.app) rfl ?_
  rintro _ _ ⟨rfl, rfl⟩
  simp only [List.cons_append, List.nil_append]
  rw [z2g.1, z2g.2]
  refine XL_det .no (D_pure rfl) rfl ?_
  refine XL_det .no (D_pure rfl) rfl ?_
  refine XL_det .no (D_pure rfl) rfl ?_
  refine XL_det .no (D_pure rfl) rfl ?_
  refine XL_det .no (D_pure rfl) rfl ?_
  refine XL_then ?_
  refine X_seq ?_
  refine X_region ?_
  refine XL_det .no (D_pure rfl) rfl ?_
  refine XL_call .no en_29 rfl (sput bp z3 1 (get_ok (get_ok (ok_new (by decide)))) (by decide) 2 hK) (by repeat first | with_reducible exact .nil _ | with_reducible exact .here _ _ | with_reducible exact Take.self _ | with_reducible apply Take.cons | with_reducible apply Out.there | with_reducible apply Take.skip | with_reducible exact Take.pre _ _ | with_reducible apply Out.app) rfl ?_
  rintro _ _ ⟨rfl, rfl⟩
  simp only [List.cons_append, List.nil_append]
  rw [z3p.1, z3p.2.1, z3p.2.2]
  refine XL_det .no (D_pure rfl) rfl ?_
  refine XL_det .no (D_pure rfl) rfl ?_
  refine XL_det .no (D_pure rfl) rfl ?_
  refine XL_det .no (D_pure rfl) rfl ?_
  refine XL_det .no (D_pure rfl) rfl ?_
  refine XL_det .no (D_pure rfl) rfl ?_
  refine XL_det .no (D_pure rfl) rfl ?_
  refine XL_then ?_
  refine X_seq ?_
  refine X_region ?_
  refine XL_det .no (D_pure (v := .bool true) rfl) rfl ?_
  refine XL_det .no (D_pure (v := .bool true) rfl) rfl ?_
  refine XL_det (.yes 37 rfl rfl rfl) (D_pure rfl) rfl ?_
  refine XL_det (.yes 37 rfl rfl rfl) (D_pure (v := .bool true) rfl) rfl ?_
  refine XL_det .no (D_pure (v := .bool true) rfl) rfl ?_
  refine XL_det .no (D_pure rfl) rfl ?_
  refine XL_det (.yes 41 rfl rfl rfl) (D_pure rfl) rfl ?_
  refine XL_det (.yes 41 rfl rfl rfl) (D_pure (v := .bool true) rfl) rfl ?_
  refine XL_det .no (D_pure (v := .bool true) rfl) rfl ?_
  refine XL_det .no (D_pure rfl) rfl ?_
  refine XL_det (.yes 45 rfl rfl rfl) (D_pure rfl) rfl ?_
  refine XL_det (.yes 45 rfl rfl rfl) (D_pure (v := .bool true) rfl) rfl ?_
  refine XL_det .no (D_pure rfl) rfl ?_
  refine XL_det .no (D_pure rfl) rfl ?_
  refine XL_det (.yes 49 rfl rfl rfl) (D_pure rfl) rfl ?_
  refine XL_det (.yes 49 rfl rfl rfl) (D_pure (v := .bool true) rfl) rfl ?_
  refine XL_det .no (D_pure rfl) rfl ?_
  refine XL_det .no (D_pure rfl) rfl ?_
  refine XL_det (.yes 53 rfl rfl rfl) (D_pure (v := .bool true) rfl) rfl ?_
  refine XL_det .no (D_pure rfl) rfl ?_
  refine XL_det .no (D_pure rfl) rfl ?_
  refine XL_det (.yes 56 rfl rfl rfl) (D_pure rfl) rfl ?_
  refine XL_det (.yes 56 rfl rfl rfl) (D_pure (v := .bool true) rfl) rfl ?_
  refine XL_det .no (D_pure rfl) rfl ?_
  refine XL_det .no (D_pure rfl) rfl ?_
  refine XL_det (.yes 60 rfl rfl rfl) (D_pure rfl) rfl ?_
  refine XL_callk (.yes 60 rfl rfl rfl) en_41 rfl (ssound bp z4 1 (put_ok (get_ok (get_ok (ok_new (by decide))))) (by decide)) (by repeat first | with_reducible exact .nil _ | with_reducible exact .here _ _ | with_reducible exact Take.self _ | with_reducible apply Take.cons | with_reducible apply Out.there | with_reducible apply Take.skip | with_reducible exact Take.pre _ _ | with_reducible apply Out.app) rfl ?_
  refine XL_det .no (D_pure rfl) rfl ?_
  refine XL_det .no (D_pure rfl) rfl ?_
  refine XL_then ?_
  refine X_ret ?_
  refine ret_ok (.nil _) (res_tmp rfl rfl) ?_
  exact ⟨_, ⟨rfl, rfl⟩, _, (by repeat first | with_reducible exact .nil _ | with_reducible exact .here _ _ | with_reducible exact Take.self _ | with_reducible apply Take.cons | with_reducible apply Out.there | with_reducible apply Take.skip | with_reducible exact Take.pre _ _ | with_reducible apply Out.app)⟩

theorem semaPlays0 (l : Arr OpE) (hl : Rd K l.ad (l.l.flatMap encO)) (m : Int) (hm : m < 1 ∨ 65536 < m) (hK : Rd K ⟨0, 0, none⟩ (tab32.map fun m => .int .u8 m)) : Ctr Tryd.prog B 7 [.int .i64 m, .slice l.oad l.l.length l.c] [K] (fun v S => v = .bool true ∧ S = [K]) := by
  refine Ctr_of_X (N := 204) Tryd.func7 rfl (by simp) rfl ?_
  intro w0 D0
  refine X_seq ?_
  refine X_region ?_
  refine XL_det .no (D_pure rfl) rfl ?_
  refine XL_then ?_
  refine X_seq ?_
  refine X_seq ?_
  refine X_region ?_
  refine XL_det .no (D_pure rfl) rfl ?_
  refine XL_det .no (D_len rfl rfl slc_67) rfl ?_
  refine XL_det .no (D_pure rfl) rfl ?_
  refine XL_then ?_
  refine X_cond rfl (fun h1 => ?_) (fun h1 => ?_)
  · try simp only [decide_eq_true_eq, decide_eq_false_iff_not, Bool.not_eq_true', Bool.not_eq_false', beq_iff_eq, bne_iff_ne, beq_eq_false_iff_ne, bne_eq_false_iff_eq, Int.not_lt, Int.not_le, gt_iff_lt, ge_iff_le, ne_eq] at h1
    refine X_seq ?_
    refine X_region ?_
    refine XL_det .no (D_pure rfl) rfl ?_
    refine XL_then ?_
    refine X_ret ?_
    refine thenX_ret ?_
    refine ret_ok (.nil _) (res_tmp rfl rfl) ?_
    exact ⟨_, ⟨rfl, rfl⟩, _, (by repeat first | with_reducible exact .nil _ | with_reducible exact .here _ _ | with_reducible exact Take.self _ | with_reducible apply Take.cons | with_reducible apply Out.there | with_reducible apply Take.skip | with_reducible exact Take.pre _ _ | with_reducible apply Out.app)⟩
  · try simp only [decide_eq_true_eq, decide_eq_false_iff_not, Bool.not_eq_true', Bool.not_eq_false', beq_iff_eq, bne_iff_ne, beq_eq_false_iff_ne, bne_eq_false_iff_eq, Int.not_lt, Int.not_le, gt_iff_lt, ge_iff_le, ne_eq] at h1
    refine X_skip ?_
    refine thenX_normal ?_
    refine X_seq ?_
    refine X_region ?_
    refine XL_det .no (D_pure rfl) rfl ?_
    refine XL_callv .no en_27 rfl (snew0 m hm) rfl ?_
    refine XL_det .no (D_pure rfl) rfl ?_
    refine XL_det .no (D_pure rfl) rfl ?_
    refine XL_det .no (D_pure rfl) rfl ?_
    refine XL_det .no (D_pure rfl) rfl ?_
    refine XL_det .no (D_pure rfl) rfl ?_
    refine XL_then ?_
    refine X_seq ?_
    refine X_seq ?_
    refine X_region ?_
    refine XL_det .no (D_pure rfl) rfl ?_
    refine XL_det .no (D_pure rfl) rfl ?_
    refine XL_det .no (D_pure rfl) rfl ?_
    refine XL_split (t := 30) rfl (fun h2 => ?_) (fun h2 => ?_)
    · try simp only [decide_eq_true_eq, decide_eq_false_iff_not, Bool.not_eq_true', Bool.not_eq_false', beq_iff_eq, bne_iff_ne, beq_eq_false_iff_ne, bne_eq_false_iff_eq, Int.not_lt, Int.not_le, gt_iff_lt, ge_iff_le, ne_eq] at h2
      refine XL_skip 30 rfl rfl rfl rfl rfl ?_
      refine XL_skip 30 rfl rfl rfl rfl rfl ?_
      refine XL_det .no (D_pure rfl) rfl ?_
      refine XL_then ?_
      refine X_cond_t rfl rfl ?_
      refine X_seq ?_
      refine X_region ?_
      refine XL_det .no (D_pure rfl) rfl ?_
      refine XL_det .no (D_ptrnil rfl rfl ptr_68 rfl) rfl ?_
      refine XL_det .no (D_pure rfl) rfl ?_
      refine XL_det (.yes 36 rfl rfl rfl) (D_pure rfl) rfl ?_
      refine XL_det (.yes 36 rfl rfl rfl) (D_pure (v := .bool true) rfl) rfl ?_
      refine XL_det .no (D_pure rfl) rfl ?_
      refine XL_det .no (D_pure rfl) rfl ?_
      refine XL_callk (.yes 40 rfl rfl rfl) en_28 rfl (alive52 hK) (by repeat first | with_reducible exact .nil _ | with_reducible exact .here _ _ | with_reducible exact Take.self _ | with_reducible apply Take.cons | with_reducible apply Out.there | with_reducible apply Take.skip | with_reducible exact Take.pre _ _ | with_reducible apply Out.app) rfl ?_
      refine XL_det .no (D_pure rfl) rfl ?_
      refine XL_det .no (D_pure rfl) rfl ?_
      refine XL_then ?_
      refine X_ret ?_
      refine thenX_ret ?_
      refine ret_ok (.nil _) (res_tmp rfl rfl) ?_
      exact ⟨_, ⟨rfl, rfl⟩, _, (by repeat first | with_reducible exact .nil _ | with_reducible exact .here _ _ | with_reducible exact Take.self _ | with_reducible apply Take.cons | with_reducible apply Out.there | with_reducible apply Take.skip | with_reducible exact Take.pre _ _ | with_reducible apply Out.app)⟩
    · try simp only [decide_eq_true_eq, decide_eq_false_iff_not, Bool.not_eq_true', Bool.not_eq_false', beq_iff_eq, bne_iff_ne, beq_eq_false_iff_ne, bne_eq_false_iff_eq, Int.not_lt, Int.not_le, gt_iff_lt, ge_iff_le, ne_eq] at h2
      refine XL_det (.yes 30 rfl rfl rfl) (D_pure rfl) rfl ?_
      refine XL_det (.yes 30 rfl rfl rfl) (D_pure rfl) rfl ?_
      refine XL_det .no (D_pure rfl) rfl ?_
      refine XL_then ?_
      refine X_cond rfl (fun h3 => ?_) (fun h3 => ?_)
      · try simp only [decide_eq_true_eq, decide_eq_false_iff_not, Bool.not_eq_true', Bool.not_eq_false', beq_iff_eq, bne_iff_ne, beq_eq_false_iff_ne, bne_eq_false_iff_eq, Int.not_lt, Int.not_le, gt_iff_lt, ge_iff_le, ne_eq] at h3
        refine X_seq ?_
        refine X_region ?_
        refine XL_det .no (D_pure rfl) rfl ?_
        refine XL_det .no (D_ptrnil rfl rfl ptr_68 rfl) rfl ?_
        refine XL_det .no (D_pure rfl) rfl ?_
        refine XL_det (.yes 36 rfl rfl rfl) (D_pure rfl) rfl ?_
        refine XL_det (.yes 36 rfl rfl rfl) (D_pure (v := .bool true) rfl) rfl ?_
        refine XL_det .no (D_pure rfl) rfl ?_
        refine XL_det .no (D_pure rfl) rfl ?_
        refine XL_callk (.yes 40 rfl rfl rfl) en_28 rfl (alive52 hK) (by repeat first | with_reducible exact .nil _ | with_reducible exact .here _ _ | with_reducible exact Take.self _ | with_reducible apply Take.cons | with_reducible apply Out.there | with_reducible apply Take.skip | with_reducible exact Take.pre _ _ | with_reducible apply Out.app) rfl ?_
        refine XL_det .no (D_pure rfl) rfl ?_
        refine XL_det .no (D_pure rfl) rfl ?_
        refine XL_then ?_
        refine X_ret ?_
        refine thenX_ret ?_
        refine ret_ok (.nil _) (res_tmp rfl rfl) ?_
        exact ⟨_, ⟨rfl, rfl⟩, _, (by repeat first | with_reducible exact .nil _ | with_reducible exact .here _ _ | with_reducible exact Take.self _ | with_reducible apply Take.cons | with_reducible apply Out.there | with_reducible apply Take.skip | with_reducible exact Take.pre _ _ | with_reducible apply Out.app)⟩
      · try simp only [decide_eq_true_eq, decide_eq_false_iff_not, Bool.not_eq_true', Bool.not_eq_false', beq_iff_eq, bne_iff_ne, beq_eq_false_iff_ne, bne_eq_false_iff_eq, Int.not_lt, Int.not_le, gt_iff_lt, ge_iff_le, ne_eq] at h3
        omega

theorem semaPlays1 (l : Arr OpE) (hl : Rd K l.ad (l.l.flatMap encO)) (m : Int) (hm1 : 1 ≤ m) (hm2 : m ≤ 65536) (hK : Rd K ⟨0, 0, none⟩ (tab32.map fun m => .int .u8 m)) : Ctr Tryd.prog B 7 [.int .i64 m, .slice l.oad l.l.length l.c] [K] (fun v S => v = .bool true ∧ S = [K]) := by
  refine Ctr_of_X (N := 204) Tryd.func7 rfl (by simp) rfl ?_
  intro w0 D0
  refine X_seq ?_
  refine X_region ?_
  refine XL_det .no (D_pure rfl) rfl ?_
  refine XL_then ?_
  refine X_seq ?_
  refine X_seq ?_
  refine X_region ?_
  refine XL_det .no (D_pure rfl) rfl ?_
  refine XL_det .no (D_len rfl rfl slc_67) rfl ?_
  refine XL_det .no (D_pure rfl) rfl ?_
  refine XL_then ?_
  refine X_cond rfl (fun h1 => ?_) (fun h1 => ?_)
  · try simp only [decide_eq_true_eq, decide_eq_false_iff_not, Bool.not_eq_true', Bool.not_eq_false', beq_iff_eq, bne_iff_ne, beq_eq_false_iff_ne, bne_eq_false_iff_eq, Int.not_lt, Int.not_le, gt_iff_lt, ge_iff_le, ne_eq] at h1
    refine X_seq ?_
    refine X_region ?_
    refine XL_det .no (D_pure rfl) rfl ?_
    refine XL_then ?_
    refine X_ret ?_
    refine thenX_ret ?_
    refine ret_ok (.nil _) (res_tmp rfl rfl) ?_
    exact ⟨_, ⟨rfl, rfl⟩, _, (by repeat first | with_reducible exact .nil _ | with_reducible exact .here _ _ | with_reducible exact Take.self _ | with_reducible apply Take.cons | with_reducible apply Out.there | with_reducible apply Take.skip | with_reducible exact Take.pre _ _ | with_reducible apply Out.app)⟩
  · try simp only [decide_eq_true_eq, decide_eq_false_iff_not, Bool.not_eq_true', Bool.not_eq_false', beq_iff_eq, bne_iff_ne, beq_eq_false_iff_ne, bne_eq_false_iff_eq, Int.not_lt, Int.not_le, gt_iff_lt, ge_iff_le, ne_eq] at h1
    refine X_skip ?_
    refine thenX_normal ?_
    refine X_seq ?_
    refine X_region ?_
    refine XL_det .no (D_pure rfl) rfl ?_
    refine XL_call .no en_27 rfl (snew1 m hm1 hm2) (by repeat first | with_reducible exact .nil _ | with_reducible exact .here _ _ | with_reducible exact Take.self _ | with_reducible apply Take.cons | with_reducible apply Out.there | with_reducible apply Take.skip | with_reducible exact Take.pre _ _ | with_reducible apply Out.app) rfl ?_
    rintro _ _ ⟨bs, rfl, rfl⟩
    simp only [List.cons_append, List.nil_append]
    refine XL_det .no (D_pure rfl) rfl ?_
    refine XL_det .no (D_pure rfl) rfl ?_
    refine XL_det .no (D_pure rfl) rfl ?_
    refine XL_det .no (D_pure rfl) rfl ?_
    refine XL_det .no (D_pure rfl) rfl ?_
    refine XL_then ?_
    refine X_seq ?_
    refine X_seq ?_
    refine X_region ?_
    refine XL_det .no (D_pure rfl) rfl ?_
    refine XL_det .no (D_pure rfl) rfl ?_
    refine XL_det .no (D_pure rfl) rfl ?_
    refine XL_split (t := 30) rfl (fun h2 => ?_) (fun h2 => ?_)
    · try simp only [decide_eq_true_eq, decide_eq_false_iff_not, Bool.not_eq_true', Bool.not_eq_false', beq_iff_eq, bne_iff_ne, beq_eq_false_iff_ne, bne_eq_false_iff_eq, Int.not_lt, Int.not_le, gt_iff_lt, ge_iff_le, ne_eq] at h2
      omega
    · try simp only [decide_eq_true_eq, decide_eq_false_iff_not, Bool.not_eq_true', Bool.not_eq_false', beq_iff_eq, bne_iff_ne, beq_eq_false_iff_ne, bne_eq_false_iff_eq, Int.not_lt, Int.not_le, gt_iff_lt, ge_iff_le, ne_eq] at h2
      refine XL_det (.yes 30 rfl rfl rfl) (D_pure rfl) rfl ?_
      refine XL_det (.yes 30 rfl rfl rfl) (D_pure rfl) rfl ?_
      refine XL_det .no (D_pure rfl) rfl ?_
      refine XL_then ?_
      refine X_cond rfl (fun h3 => ?_) (fun h3 => ?_)
      · try simp only [decide_eq_true_eq, decide_eq_false_iff_not, Bool.not_eq_true', Bool.not_eq_false', beq_iff_eq, bne_iff_ne, beq_eq_false_iff_ne, bne_eq_false_iff_eq, Int.not_lt, Int.not_le, gt_iff_lt, ge_iff_le, ne_eq] at h3
        omega
      · try simp only [decide_eq_true_eq, decide_eq_false_iff_not, Bool.not_eq_true', Bool.not_eq_false', beq_iff_eq, bne_iff_ne, beq_eq_false_iff_ne, bne_eq_false_iff_eq, Int.not_lt, Int.not_le, gt_iff_lt, ge_iff_le, ne_eq] at h3
        refine X_skip ?_
        refine thenX_normal ?_
        refine X_seq ?_
        refine X_seq ?_
        refine X_region ?_
        refine XL_det .no (D_pure rfl) rfl ?_
        refine XL_det .no (D_ptrnil rfl rfl ptr_68 rfl) rfl ?_
        refine XL_det .no (D_pure rfl) rfl ?_
        refine XL_det (.yes 45 rfl rfl rfl) (D_pure rfl) rfl ?_
        refine XL_det (.yes 45 rfl rfl rfl) (D_pure (v := .bool false) rfl) rfl ?_
        refine XL_det .no (D_pure rfl) rfl ?_
        refine XL_then ?_
        refine X_cond_f rfl rfl ?_
        refine X_skip ?_
        refine thenX_normal ?_
        refine X_seq ?_
        refine X_region ?_
        refine XL_det .no (D_pure rfl) rfl ?_
        refine XL_det .no (D_build [_, _, _, _, _, _, _, _, _, _, _, _, _, _, _, _, _, _] rfl bld_73 (by rfl)) rfl ?_
        refine XL_alloc .no zero_73 rfl (fun b1 => ?_)
        refine XL_efd .no (F_stw (vs := mc ⟨m, fun _ => 0, 0#32⟩ Arr.emp) rfl rfl (by rfl) (by repeat first | with_reducible exact .here _ _ | with_reducible apply Out.there | with_reducible apply Out.app) tk_73 rfl rfl) ?_
        refine XL_then ?_
        refine X_seq ?_
        refine X_seq ?_
        refine X_region ?_
        refine XL_det .no (D_pure rfl) rfl ?_
        refine XL_then ?_
        refine X_block ?_
        refine X_rowa encI 3 1 ?_
        refine X_loop (α := Nat × Se × Arr Int) (fun ⟨i, σ, w⟩ => i ≤ l.l.length ∧ σ.Ok m ∧ w.Own ∧ w.l = listI σ.W) (fun ⟨i, σ, w⟩ => [(8, .int .i64 (i : Int)), (0, .int .i64 m), (1, .slice l.oad l.l.length l.c), (5, .pointer (some ⟨bs, 0, none⟩)), (7, .pointer (some ⟨b1, 0, none⟩))]) (fun ⟨i, σ, w⟩ => [blk bs (sc σ m) 129, blk b1 (mc σ w) 73, row (.slice w.oad w.l.length w.c) 3 1 w.l.length (w.l.flatMap encI), K]) (fun ⟨i, σ, w⟩ => l.l.length - i) (0, ⟨m, fun _ => 0, 0#32⟩, Arr.emp) ?_ (by refine ⟨?_, ?_, ?_, ?_, ?_, trivial⟩ <;> rfl) (by repeat first | with_reducible exact .nil _ | with_reducible exact .here _ _ | with_reducible exact Take.self _ | with_reducible apply Take.cons | with_reducible apply Out.there | with_reducible apply Take.skip | with_reducible exact Take.pre _ _ | with_reducible apply Out.app) ?_
        · exact ⟨Nat.zero_le _, ok_new hm1, Arr.emp_own, list_zero.symm⟩
        · rintro ⟨i, σ, w⟩ ⟨hi, hσ, hw, hwl⟩
          dsimp only
          refine X_seq ?_
          refine X_seq ?_
          refine X_region ?_
          refine XL_det .no (D_pure rfl) rfl ?_
          refine XL_det .no (D_pure rfl) rfl ?_
          refine XL_det .no (D_len rfl rfl slc_67) rfl ?_
          refine XL_det .no (D_pure rfl) rfl ?_
          refine XL_then ?_
          refine X_cond rfl (fun h4 => ?_) (fun h4 => ?_)
          · try simp only [decide_eq_true_eq, decide_eq_false_iff_not, Bool.not_eq_true', Bool.not_eq_false', beq_iff_eq, bne_iff_ne, beq_eq_false_iff_ne, bne_eq_false_iff_eq, Int.not_lt, Int.not_le, gt_iff_lt, ge_iff_le, ne_eq] at h4
            obtain ⟨o, ho⟩ : ∃ o, l.l[i]? = some o := ⟨_, List.getElem?_eq_getElem (by omega)⟩
            have ht7 := tmod7 o.k
            refine X_rowa encI 3 1 ?_
            refine X_rowa encI 3 1 ?_
            refine X_skip ?_
            refine thenX_normal ?_
            refine X_seq ?_
            refine X_block ?_
            refine X_seq ?_
            refine X_region ?_
            refine XL_det .no (D_pure rfl) rfl ?_
            refine XL_det .no (D_pure rfl) rfl ?_
            refine XL_det .no (D_idxSo rfl rfl slc_67 (l).nil0 rfl (by omega) rfl) rfl ?_
            refine XL_det .no (D_fldA rfl fld_75_1 rfl) rfl ?_
            refine XL_det .no (D_ela (enc := encO) (sz := 2) (i := i) (k := 1) (fun _ => rfl) rfl (by repeat first | with_reducible exact .here _ _ | with_reducible apply Out.there | with_reducible apply Out.app) hl tk_3 ho rfl) rfl ?_
            refine XL_det .no (D_pure rfl) rfl ?_
            refine XL_then ?_
            refine X_seq ?_
            refine X_region ?_
            refine XL_det .no (D_pure rfl) rfl ?_
            refine XL_det .no (D_pure rfl) rfl ?_
            refine XL_then ?_
            refine X_seq ?_
            refine X_region ?_
            refine XL_det .no (D_pure rfl) rfl ?_
            refine XL_det .no (D_pure rfl) rfl ?_
            refine XL_then ?_
            refine X_seq ?_
            refine X_region ?_
            refine XL_det .no (D_pure rfl) rfl ?_
            refine XL_det .no (D_pure rfl) rfl ?_
            refine XL_then ?_
            refine X_seq ?_
            refine X_region ?_
            refine XL_det .no (D_pure rfl) rfl ?_
            refine XL_det .no (D_pure rfl) rfl ?_
            refine XL_then ?_
            refine X_seqj (α := Se × Arr Int × Int × Bool × Int × Arr Int × Arr Int) (fun ⟨σ2, w2, a, p, f, g1, g2⟩ => σ2.Ok m ∧ w2.Own ∧ w2.l = listI σ2.W ∧ g1.Own ∧ g2.Own ∧ g1.l = g2.l ∧ g1.l.length ≤ 65536) (fun ⟨σ2, w2, a, p, f, g1, g2⟩ => [(10, .int .i64 a), (11, .int .i64 a), (12, .bool p), (13, .bool p), (14, .int .i64 f), (15, .int .i64 f), (16, .slice g1.oad g1.l.length g1.c), (17, .slice g2.oad g2.l.length g2.c), (0, .int .i64 m), (1, .slice l.oad l.l.length l.c), (5, .pointer (some ⟨bs, 0, none⟩)), (7, .pointer (some ⟨b1, 0, none⟩)), (8, .int .i64 (i : Int)), (9, .int .i64 o.t)]) (fun ⟨σ2, w2, a, p, f, g1, g2⟩ => [blk bs (sc σ2 m) 129, blk b1 (mc σ2 w2) 73, row (.slice w2.oad w2.l.length w2.c) 3 1 w2.l.length (w2.l.flatMap encI), row (.slice g1.oad g1.l.length g1.c) 3 1 g1.l.length (g1.l.flatMap encI), row (.slice g2.oad g2.l.length g2.c) 3 1 g2.l.length (g2.l.flatMap encI), K]) ?_ ?_
            · skip
              refine X_seq ?_
              refine X_region ?_
              refine XL_det .no (D_pure rfl) rfl ?_
              refine XL_det .no (D_pure rfl) rfl ?_
              refine XL_det .no (D_idxSo rfl rfl slc_67 (l).nil0 rfl (by omega) rfl) rfl ?_
              refine XL_det .no (D_fldA rfl fld_75_0 rfl) rfl ?_
              refine XL_det .no (D_ela (enc := encO) (sz := 2) (i := i) (k := 0) (fun _ => rfl) rfl (by repeat first | with_reducible exact .here _ _ | with_reducible apply Out.there | with_reducible apply Out.app) hl tk_3 ho rfl) rfl ?_
              refine XL_det .no (D_divmod (z := Int.tmod o.k 7) rfl rfl (by decide) rfl) rfl ?_
              refine XL_det .no (D_add (m := Int.tmod o.k 7) (n := 7) rfl rfl (by omega) (by omega)) rfl ?_
              refine XL_det .no (D_divmod (z := Int.tmod (Int.tmod o.k 7 + 7) 7) rfl rfl (by decide) rfl) rfl ?_
              refine XL_then ?_
              refine X_block ?_
              refine X_seqj (α := Bool) (fun q => True) (fun q => [(83, .bool q), (0, .int .i64 m), (1, .slice l.oad l.l.length l.c), (5, .pointer (some ⟨bs, 0, none⟩)), (7, .pointer (some ⟨b1, 0, none⟩)), (8, .int .i64 (i : Int)), (9, .int .i64 o.t), (10, .int .i64 0), (11, .int .i64 0), (12, .bool false), (13, .bool false), (14, .int .i64 0), (15, .int .i64 0), (16, .slice none 0 0), (17, .slice none 0 0), (69, .int .i64 (Int.tmod (Int.tmod o.k 7 + 7) 7))]) (fun q => [blk bs (sc σ m) 129, blk b1 (mc σ w) 73, row (.slice w.oad w.l.length w.c) 3 1 w.l.length (w.l.flatMap encI), row (.slice (Arr.emp : Arr Int).oad (Arr.emp : Arr Int).l.length (Arr.emp : Arr Int).c) 3 1 (Arr.emp : Arr Int).l.length ((Arr.emp : Arr Int).l.flatMap encI), row (.slice (Arr.emp : Arr Int).oad (Arr.emp : Arr Int).l.length (Arr.emp : Arr Int).c) 3 1 (Arr.emp : Arr Int).l.length ((Arr.emp : Arr Int).l.flatMap encI), K]) ?_ ?_
              · skip
                refine X_seq ?_
                refine X_region ?_
                refine XL_det .no (D_pure rfl) rfl ?_
                refine XL_det .no (D_pure rfl) rfl ?_
                refine XL_then ?_
                refine X_cond rfl (fun h5 => ?_) (fun h5 => ?_)
                · try simp only [decide_eq_true_eq, decide_eq_false_iff_not, Bool.not_eq_true', Bool.not_eq_false', beq_iff_eq, bne_iff_ne, beq_eq_false_iff_ne, bne_eq_false_iff_eq, Int.not_lt, Int.not_le, gt_iff_lt, ge_iff_le, ne_eq] at h5
                  refine X_skip ?_
                  refine joinQ_normal (Int.tmod (Int.tmod o.k 7 + 7) 7 == 3) ?_ ?_ ?_
                  · trivial
                  · refine ⟨?_, ?_, ?_, ?_, ?_, ?_, ?_, ?_, ?_, ?_, ?_, ?_, ?_, ?_, ?_, ?_, trivial⟩ <;> rfl
                  · exact ⟨_, (by repeat first | with_reducible exact .nil _ | with_reducible exact .here _ _ | with_reducible exact Take.self _ | with_reducible apply Take.cons | with_reducible apply Out.there | with_reducible apply Take.skip | with_reducible exact Take.pre _ _ | with_reducible apply Out.app)⟩
                · try simp only [decide_eq_true_eq, decide_eq_false_iff_not, Bool.not_eq_true', Bool.not_eq_false', beq_iff_eq, bne_iff_ne, beq_eq_false_iff_ne, bne_eq_false_iff_eq, Int.not_lt, Int.not_le, gt_iff_lt, ge_iff_le, ne_eq] at h5
                  refine X_region ?_
                  refine XL_det .no (D_pure rfl) rfl ?_
                  refine XL_det .no (D_pure rfl) rfl ?_
                  refine XL_nil ?_
                  refine joinQ_normal (Int.tmod (Int.tmod o.k 7 + 7) 7 == 4) ?_ ?_ ?_
                  · trivial
                  · refine ⟨?_, ?_, ?_, ?_, ?_, ?_, ?_, ?_, ?_, ?_, ?_, ?_, ?_, ?_, ?_, ?_, trivial⟩ <;> rfl
                  · exact ⟨_, (by repeat first | with_reducible exact .nil _ | with_reducible exact .here _ _ | with_reducible exact Take.self _ | with_reducible apply Take.cons | with_reducible apply Out.there | with_reducible apply Take.skip | with_reducible exact Take.pre _ _ | with_reducible apply Out.app)⟩
              · intro q _
                refine X_cond rfl (fun h6 => ?_) (fun h6 => ?_)
                · try simp only [decide_eq_true_eq, decide_eq_false_iff_not, Bool.not_eq_true', Bool.not_eq_false', beq_iff_eq, bne_iff_ne, beq_eq_false_iff_ne, bne_eq_false_iff_eq, Int.not_lt, Int.not_le, gt_iff_lt, ge_iff_le, ne_eq] at h6
                  refine X_seq ?_
                  refine X_region ?_
                  refine XL_det .no (D_pure rfl) rfl ?_
                  refine XL_det .no (D_pure rfl) rfl ?_
                  refine XL_call .no en_29 rfl (sput bs σ m hσ hm2 o.t hK) (by repeat first | with_reducible exact .nil _ | with_reducible exact .here _ _ | with_reducible exact Take.self _ | with_reducible apply Take.cons | with_reducible apply Out.there | with_reducible apply Take.skip | with_reducible exact Take.pre _ _ | with_reducible apply Out.app) rfl ?_
                  rintro _ _ ⟨rfl, rfl⟩
                  simp only [List.cons_append, List.nil_append]
                  refine XL_det .no (D_pure rfl) rfl ?_
                  refine XL_det .no (D_pure rfl) rfl ?_
                  refine XL_det .no (D_pure rfl) rfl ?_
                  refine XL_det .no (D_pure rfl) rfl ?_
                  refine XL_det .no (D_pure rfl) rfl ?_
                  refine XL_det .no (D_pure rfl) rfl ?_
                  refine XL_det .no (D_pure rfl) rfl ?_
                  refine XL_then ?_
                  refine X_region ?_
                  refine XL_det .no (D_ldso (vs := mc σ w) rfl (by repeat first | with_reducible exact .here _ _ | with_reducible apply Out.there | with_reducible apply Out.app) tk_73 rfl (by rfl)) rfl ?_
                  refine XL_det .no (D_pure rfl) rfl ?_
                  refine XL_call .no en_30 rfl (mput σ m hσ hm2 w hw hwl o.t) (by repeat first | with_reducible exact .nil _ | with_reducible exact .here _ _ | with_reducible exact Take.self _ | with_reducible apply Take.cons | with_reducible apply Out.there | with_reducible apply Take.skip | with_reducible exact Take.pre _ _ | with_reducible apply Out.app) rfl ?_
                  rintro _ _ ⟨w2, ⟨hw2o, hw2l⟩, rfl, rfl⟩
                  simp only [List.cons_append, List.nil_append]
                  refine XL_det .no (D_pure rfl) rfl ?_
                  refine XL_det .no (D_pure rfl) rfl ?_
                  refine XL_det .no (D_pure rfl) rfl ?_
                  refine XL_det .no (D_pure rfl) rfl ?_
                  refine XL_det .no (D_pure rfl) rfl ?_
                  refine XL_efd .no (F_stw (vs := mc (putU σ o.t) w2) rfl rfl (by rfl) (by repeat first | with_reducible exact .here _ _ | with_reducible apply Out.there | with_reducible apply Out.app) tk_73 rfl rfl) ?_
                  refine XL_det .no (D_pure rfl) rfl ?_
                  refine XL_det .no (D_pure rfl) rfl ?_
                  refine XL_det .no (D_pure rfl) rfl ?_
                  refine XL_nil ?_
                  refine inBlk_normal ?_
                  refine joinQ_normal (putU σ o.t, w2, putN σ o.t, putO σ o.t, putE σ o.t, Arr.emp, Arr.emp) ?_ ?_ ?_
                  · exact ⟨put_ok hσ, hw2o, hw2l, Arr.emp_own, Arr.emp_own, rfl, Nat.zero_le _⟩
                  · refine ⟨?_, ?_, ?_, ?_, ?_, ?_, ?_, ?_, ?_, ?_, ?_, ?_, ?_, ?_, trivial⟩ <;> rfl
                  · exact ⟨_, (by repeat first | with_reducible exact .nil _ | with_reducible exact .here _ _ | with_reducible exact Take.self _ | with_reducible apply Take.cons | with_reducible apply Out.there | with_reducible apply Take.skip | with_reducible exact Take.pre _ _ | with_reducible apply Out.app)⟩
                · try simp only [decide_eq_true_eq, decide_eq_false_iff_not, Bool.not_eq_true', Bool.not_eq_false', beq_iff_eq, bne_iff_ne, beq_eq_false_iff_ne, bne_eq_false_iff_eq, Int.not_lt, Int.not_le, gt_iff_lt, ge_iff_le, ne_eq] at h6
                  refine X_seq ?_
                  refine X_region ?_
                  refine XL_det .no (D_pure rfl) rfl ?_
                  refine XL_det .no (D_pure rfl) rfl ?_
                  refine XL_then ?_
                  refine X_cond rfl (fun h7 => ?_) (fun h7 => ?_)
                  · try simp only [decide_eq_true_eq, decide_eq_false_iff_not, Bool.not_eq_true', Bool.not_eq_false', beq_iff_eq, bne_iff_ne, beq_eq_false_iff_ne, bne_eq_false_iff_eq, Int.not_lt, Int.not_le, gt_iff_lt, ge_iff_le, ne_eq] at h7
                    refine X_seq ?_
                    refine X_draw [blk b1 (mc σ w) 73, row (.slice w.oad w.l.length w.c) 3 1 w.l.length (w.l.flatMap encI), row (.slice (Arr.emp : Arr Int).oad (Arr.emp : Arr Int).l.length (Arr.emp : Arr Int).c) 3 1 (Arr.emp : Arr Int).l.length ((Arr.emp : Arr Int).l.flatMap encI), row (.slice (Arr.emp : Arr Int).oad (Arr.emp : Arr Int).l.length (Arr.emp : Arr Int).c) 3 1 (Arr.emp : Arr Int).l.length ((Arr.emp : Arr Int).l.flatMap encI), K] mixed (by repeat first | with_reducible exact .nil _ | with_reducible exact .here _ _ | with_reducible exact Take.self _ | with_reducible apply Take.cons | with_reducible apply Out.there | with_reducible apply Take.skip | with_reducible exact Take.pre _ _ | with_reducible apply Out.app) ?_
                    refine XA_detp 0 rfl (by kernel_rfl) (by kernel_rfl) (by kernel_rfl) (fun _ _ _ _ h => h) .no (D_pureP rfl) rfl ?_
                    refine XA_detp 1 rfl (by kernel_rfl) (by kernel_rfl) (by kernel_rfl) (fun _ _ _ _ h => h) .no (D_pureP rfl) rfl ?_
                    refine XA_det 3 rfl (by kernel_rfl) (by kernel_rfl) (by kernel_rfl) (by kernel_rfl) (fun _ _ _ _ h => h) .no (D_fld rfl fld_73_2 (o' := 17) rfl) rfl ?_
                    refine XA_det 4 rfl (by kernel_rfl) (by kernel_rfl) (by kernel_rfl) (by kernel_rfl) (fun _ _ _ _ h => h) .no (D_ldo rfl (by repeat first | with_reducible exact .here _ _ | with_reducible apply Out.there | with_reducible apply Out.app) tk_41 (by rfl)) rfl ?_
                    refine XA_detp 5 rfl (by kernel_rfl) (by kernel_rfl) (by kernel_rfl) (fun _ _ _ _ h => h) .no (D_pureP rfl) rfl ?_
                    refine XA_one 2 (by kernel_rfl) ?_
                    refine XO_callc rfl .no en_31 rfl (by repeat first | with_reducible exact .nil _ | with_reducible apply App.cons) (squit bs σ m hσ hm2 o.t) (by repeat first | with_reducible exact .nil _ | with_reducible exact .here _ _ | with_reducible exact Take.self _ | with_reducible apply Take.cons | with_reducible apply Out.there | with_reducible apply Take.skip | with_reducible exact Take.pre _ _ | with_reducible apply Out.app) rfl ?_
                    rintro _ _ ⟨rfl, rfl⟩
                    simp only [List.cons_append, List.nil_append]
                    refine ⟨[blk bs (sc (quitU σ o.t) m) 129], _, _, (by repeat first | with_reducible exact .nil _ | with_reducible apply App.cons), (by repeat first | with_reducible exact .nil _ | with_reducible exact .here _ _ | with_reducible exact Take.self _ | with_reducible apply Take.cons | with_reducible apply Out.there | with_reducible apply Take.skip | with_reducible exact Take.pre _ _ | with_reducible apply Out.app), ?_⟩
                    refine XA_one 6 (by kernel_rfl) ?_
                    refine XO_callk rfl .no en_32 rfl (by repeat first | with_reducible exact .nil _ | with_reducible apply App.cons) (rIn w (Rd_own hw rfl) o.t) (by repeat first | with_reducible exact .nil _ | with_reducible exact .here _ _ | with_reducible exact Take.self _ | with_reducible apply Take.cons | with_reducible apply Out.there | with_reducible apply Take.skip | with_reducible exact Take.pre _ _ | with_reducible apply Out.app) rfl ?_
                    rw [in_has hwl]
                    refine XA_detp 7 rfl (by kernel_rfl) (by kernel_rfl) (by kernel_rfl) (fun _ _ _ _ h => h) .no (D_pureP rfl) rfl ?_
                    refine XA_detp 8 rfl (by kernel_rfl) (by kernel_rfl) (by kernel_rfl) (fun _ _ _ _ h => h) .no (D_pureP rfl) rfl ?_
                    refine XA_done (by kernel_rfl) ?_
                    try simp only [List.cons_append, List.nil_append, List.append_nil]
                    refine thenX_normal ?_
                    refine X_region ?_
                    refine XL_det .no (D_fld rfl fld_73_2 (o' := 17) rfl) rfl ?_
                    refine XL_det .no (D_ldo rfl (by repeat first | with_reducible exact .here _ _ | with_reducible apply Out.there | with_reducible apply Out.app) tk_41 (by rfl)) rfl ?_
                    refine XL_det .no (D_pure rfl) rfl ?_
                    refine XL_call .no en_33 rfl (lwithout w (Rd_own hw rfl) (by rw [hwl]; exact listI_le _) o.t) (by repeat first | with_reducible exact .nil _ | with_reducible exact .here _ _ | with_reducible exact Take.self _ | with_reducible apply Take.cons | with_reducible apply Out.there | with_reducible apply Take.skip | with_reducible exact Take.pre _ _ | with_reducible apply Out.app) rfl ?_
                    rintro _ _ ⟨x, ⟨hx1, hx2⟩, rfl, rfl⟩
                    simp only [List.cons_append, List.nil_append]
                    refine XL_det .no (D_fld rfl fld_73_2 (o' := 17) rfl) rfl ?_
                    refine XL_efd .no (F_st (k := 17) (cs' := mc (quitU σ o.t) x) rfl rfl rfl (by repeat first | with_reducible exact .here _ _ | with_reducible apply Out.there | with_reducible apply Out.app) tk_41 rfl (rfl)) ?_
                    refine XL_nil ?_
                    refine inBlk_normal ?_
                    refine joinQ_normal (quitU σ o.t, x, 0, hasB σ.W o.t, 0, Arr.emp, Arr.emp) ?_ ?_ ?_
                    · exact ⟨quit_ok hσ, hx2, quit_list hwl hx1, Arr.emp_own, Arr.emp_own, rfl, Nat.zero_le _⟩
                    · refine ⟨?_, ?_, ?_, ?_, ?_, ?_, ?_, ?_, ?_, ?_, ?_, ?_, ?_, ?_, trivial⟩ <;> rfl
                    · exact ⟨_, (by repeat first | with_reducible exact .nil _ | with_reducible exact .here _ _ | with_reducible exact Take.self _ | with_reducible apply Take.cons | with_reducible apply Out.there | with_reducible apply Take.skip | with_reducible exact Take.pre _ _ | with_reducible apply Out.app)⟩
                  · try simp only [decide_eq_true_eq, decide_eq_false_iff_not, Bool.not_eq_true', Bool.not_eq_false', beq_iff_eq, bne_iff_ne, beq_eq_false_iff_ne, bne_eq_false_iff_eq, Int.not_lt, Int.not_le, gt_iff_lt, ge_iff_le, ne_eq] at h7
                    refine X_seq ?_
                    refine X_region ?_
                    refine XL_det .no (D_pure rfl) rfl ?_
                    refine XL_det .no (D_pure rfl) rfl ?_
                    refine XL_then ?_
                    refine X_cond rfl (fun h8 => ?_) (fun h8 => ?_)
                    · try simp only [decide_eq_true_eq, decide_eq_false_iff_not, Bool.not_eq_true', Bool.not_eq_false', beq_iff_eq, bne_iff_ne, beq_eq_false_iff_ne, bne_eq_false_iff_eq, Int.not_lt, Int.not_le, gt_iff_lt, ge_iff_le, ne_eq] at h8
                      refine X_seq ?_
                      refine X_region ?_
                      refine XL_det .no (D_pure rfl) rfl ?_
                      refine XL_det .no (D_pure rfl) rfl ?_
                      refine XL_call .no en_34 rfl (send bs σ m hσ hm2 o.t hK) (by repeat first | with_reducible exact .nil _ | with_reducible exact .here _ _ | with_reducible exact Take.self _ | with_reducible apply Take.cons | with_reducible apply Out.there | with_reducible apply Take.skip | with_reducible exact Take.pre _ _ | with_reducible apply Out.app) rfl ?_
                      rintro _ _ ⟨o1, ⟨ho1, ho1l⟩, rfl, rfl⟩
                      simp only [List.cons_append, List.nil_append]
                      refine XL_det .no (D_pure rfl) rfl ?_
                      refine XL_then ?_
                      refine X_region ?_
                      refine XL_det .no (D_ldso (vs := mc σ w) rfl (by repeat first | with_reducible exact .here _ _ | with_reducible apply Out.there | with_reducible apply Out.app) tk_73 rfl (by rfl)) rfl ?_
                      refine XL_det .no (D_pure rfl) rfl ?_
                      refine XL_call .no en_35 rfl (mend σ m hσ hm2 w hw hwl o.t) (by repeat first | with_reducible exact .nil _ | with_reducible exact .here _ _ | with_reducible exact Take.self _ | with_reducible apply Take.cons | with_reducible apply Out.there | with_reducible apply Take.skip | with_reducible exact Take.pre _ _ | with_reducible apply Out.app) rfl ?_
                      rintro _ _ ⟨w2, o2, ⟨hw2o, hw2l, ho2, ho2l⟩, rfl, rfl⟩
                      simp only [List.cons_append, List.nil_append]
                      refine XL_det .no (D_pure rfl) rfl ?_
                      refine XL_det .no (D_pure rfl) rfl ?_
                      refine XL_det .no (D_pure rfl) rfl ?_
                      refine XL_efd .no (F_stw (vs := mc (endS σ o.t).1 w2) rfl rfl (by rfl) (by repeat first | with_reducible exact .here _ _ | with_reducible apply Out.there | with_reducible apply Out.app) tk_73 rfl rfl) ?_
                      refine XL_det .no (D_pure rfl) rfl ?_
                      refine XL_nil ?_
                      refine inBlk_normal ?_
                      refine joinQ_normal ((endS σ o.t).1, w2, 0, false, 0, o1, o2) ?_ ?_ ?_
                      · exact ⟨endS_ok hσ, hw2o, hw2l, ho1, ho2, ho1l.trans ho2l.symm, by rw [ho1l]; exact endS_len hσ hm2⟩
                      · refine ⟨?_, ?_, ?_, ?_, ?_, ?_, ?_, ?_, ?_, ?_, ?_, ?_, ?_, ?_, trivial⟩ <;> rfl
                      · exact ⟨_, (by repeat first | with_reducible exact .nil _ | with_reducible exact .here _ _ | with_reducible exact Take.self _ | with_reducible apply Take.cons | with_reducible apply Out.there | with_reducible apply Take.skip | with_reducible exact Take.pre _ _ | with_reducible apply Out.app)⟩
                    · try simp only [decide_eq_true_eq, decide_eq_false_iff_not, Bool.not_eq_true', Bool.not_eq_false', beq_iff_eq, bne_iff_ne, beq_eq_false_iff_ne, bne_eq_false_iff_eq, Int.not_lt, Int.not_le, gt_iff_lt, ge_iff_le, ne_eq] at h8
                      refine X_seq ?_
                      refine X_region ?_
                      refine XL_det .no (D_pure rfl) rfl ?_
                      refine XL_det .no (D_pure rfl) rfl ?_
                      refine XL_call .no en_36 rfl (sget bs σ m hσ hm2 o.t) (by repeat first | with_reducible exact .nil _ | with_reducible exact .here _ _ | with_reducible exact Take.self _ | with_reducible apply Take.cons | with_reducible apply Out.there | with_reducible apply Take.skip | with_reducible exact Take.pre _ _ | with_reducible apply Out.app) rfl ?_
                      rintro _ _ ⟨rfl, rfl⟩
                      simp only [List.cons_append, List.nil_append]
                      refine XL_det .no (D_pure rfl) rfl ?_
                      refine XL_det .no (D_pure rfl) rfl ?_
                      refine XL_det .no (D_pure rfl) rfl ?_
                      refine XL_det .no (D_pure rfl) rfl ?_
                      refine XL_det .no (D_pure rfl) rfl ?_
                      refine XL_then ?_
                      refine X_region ?_
                      refine XL_det .no (D_ldso (vs := mc σ w) rfl (by repeat first | with_reducible exact .here _ _ | with_reducible apply Out.there | with_reducible apply Out.app) tk_73 rfl (by rfl)) rfl ?_
                      refine XL_det .no (D_pure rfl) rfl ?_
                      refine XL_call .no en_37 rfl (mget σ m hσ hm2 w hw hwl o.t) (by repeat first | with_reducible exact .nil _ | with_reducible exact .here _ _ | with_reducible exact Take.self _ | with_reducible apply Take.cons | with_reducible apply Out.there | with_reducible apply Take.skip | with_reducible exact Take.pre _ _ | with_reducible apply Out.app) rfl ?_
                      rintro _ _ ⟨w2, ⟨hw2o, hw2l⟩, rfl, rfl⟩
                      simp only [List.cons_append, List.nil_append]
                      refine XL_det .no (D_pure rfl) rfl ?_
                      refine XL_det .no (D_pure rfl) rfl ?_
                      refine XL_det .no (D_pure rfl) rfl ?_
                      refine XL_det .no (D_pure rfl) rfl ?_
                      refine XL_efd .no (F_stw (vs := mc (getU σ o.t) w2) rfl rfl (by rfl) (by repeat first | with_reducible exact .here _ _ | with_reducible apply Out.there | with_reducible apply Out.app) tk_73 rfl rfl) ?_
                      refine XL_det .no (D_pure rfl) rfl ?_
                      refine XL_det .no (D_pure rfl) rfl ?_
                      refine XL_nil ?_
                      refine inBlk_normal ?_
                      refine joinQ_normal (getU σ o.t, w2, 0, getO σ o.t, getE σ o.t, Arr.emp, Arr.emp) ?_ ?_ ?_
                      · exact ⟨get_ok hσ, hw2o, hw2l, Arr.emp_own, Arr.emp_own, rfl, Nat.zero_le _⟩
                      · refine ⟨?_, ?_, ?_, ?_, ?_, ?_, ?_, ?_, ?_, ?_, ?_, ?_, ?_, ?_, trivial⟩ <;> rfl
                      · exact ⟨_, (by repeat first | with_reducible exact .nil _ | with_reducible exact .here _ _ | with_reducible exact Take.self _ | with_reducible apply Take.cons | with_reducible apply Out.there | with_reducible apply Take.skip | with_reducible exact Take.pre _ _ | with_reducible apply Out.app)⟩
            · rintro ⟨σ2, w2, a, p, f, g1, g2⟩ ⟨hσ2, hw2, hw2l, hg1, hg2, hgg, hgl⟩
              refine X_seq ?_
              refine X_seq ?_
              refine X_draw _ mixed (Take.self _) ?_
              refine XA_detp 0 rfl (by kernel_rfl) (by kernel_rfl) (by kernel_rfl) (fun _ _ _ _ h => h) .no (D_pureP rfl) rfl ?_
              refine XA_detp 1 rfl (by kernel_rfl) (by kernel_rfl) (by kernel_rfl) (fun _ _ _ _ h => h) .no (D_pureP rfl) rfl ?_
              refine XA_detp 2 rfl (by kernel_rfl) (by kernel_rfl) (by kernel_rfl) (fun _ _ _ _ h => h) .no (D_pureP (v := .bool false) (bfn (by rfl))) rfl ?_
              refine XA_detp 3 rfl (by kernel_rfl) (by kernel_rfl) (by kernel_rfl) (fun _ _ _ _ h => h) .no (D_pureP rfl) rfl ?_
              refine XA_detp 4 rfl (by kernel_rfl) (by kernel_rfl) (by kernel_rfl) (fun _ _ _ _ h => h) (.yes 129 rfl rfl rfl) (D_pureP rfl) rfl ?_
              refine XA_detp 5 rfl (by kernel_rfl) (by kernel_rfl) (by kernel_rfl) (fun _ _ _ _ h => h) (.yes 129 rfl rfl rfl) (D_pureP rfl) rfl ?_
              refine XA_det 6 rfl (by kernel_rfl) (by kernel_rfl) (by kernel_rfl) (by kernel_rfl) (fun _ _ _ _ h => h) (.yes 129 rfl rfl rfl) (D_eqb (b := false) rfl rfl ub_4 (beqF (by rfl))) rfl ?_
              refine XA_detp 7 rfl (by kernel_rfl) (by kernel_rfl) (by kernel_rfl) (fun _ _ _ _ h => h) .no (D_pureP rfl) rfl ?_
              refine XA_detp 8 rfl (by kernel_rfl) (by kernel_rfl) (by kernel_rfl) (fun _ _ _ _ h => h) .no (D_pureP rfl) rfl ?_
              refine XA_detp 9 rfl (by kernel_rfl) (by kernel_rfl) (by kernel_rfl) (fun _ _ _ _ h => h) (.yes 134 rfl rfl rfl) (D_pureP rfl) rfl ?_
              refine XA_detp 10 rfl (by kernel_rfl) (by kernel_rfl) (by kernel_rfl) (fun _ _ _ _ h => h) (.yes 134 rfl rfl rfl) (D_pureP rfl) rfl ?_
              refine XA_detp 11 rfl (by kernel_rfl) (by kernel_rfl) (by kernel_rfl) (fun _ _ _ _ h => h) (.yes 134 rfl rfl rfl) (D_pureP (v := .bool false) (bfn (by rfl))) rfl ?_
              refine XA_detp 12 rfl (by kernel_rfl) (by kernel_rfl) (by kernel_rfl) (fun _ _ _ _ h => h) .no (D_pureP rfl) rfl ?_
              refine XA_detp 13 rfl (by kernel_rfl) (by kernel_rfl) (by kernel_rfl) (fun _ _ _ _ h => h) .no (D_pureP rfl) rfl ?_
              refine XA_detp 14 rfl (by kernel_rfl) (by kernel_rfl) (by kernel_rfl) (fun _ _ _ _ h => h) (.yes 139 rfl rfl rfl) (D_pureP rfl) rfl ?_
              refine XA_det 15 rfl (by kernel_rfl) (by kernel_rfl) (by kernel_rfl) (by kernel_rfl) (fun _ _ _ _ h => h) (.yes 139 rfl rfl rfl) (D_len rfl rfl slc_41) rfl ?_
              refine XA_detp 16 rfl (by kernel_rfl) (by kernel_rfl) (by kernel_rfl) (fun _ _ _ _ h => h) (.yes 139 rfl rfl rfl) (D_pureP rfl) rfl ?_
              refine XA_det 17 rfl (by kernel_rfl) (by kernel_rfl) (by kernel_rfl) (by kernel_rfl) (fun _ _ _ _ h => h) (.yes 139 rfl rfl rfl) (D_len rfl rfl slc_41) rfl ?_
              refine XA_detp 18 rfl (by kernel_rfl) (by kernel_rfl) (by kernel_rfl) (fun _ _ _ _ h => h) (.yes 139 rfl rfl rfl) (D_pureP (v := .bool false) (bfn (by rw [hgg]))) rfl ?_
              refine XA_detp 19 rfl (by kernel_rfl) (by kernel_rfl) (by kernel_rfl) (fun _ _ _ _ h => h) .no (D_pureP rfl) rfl ?_
              refine XA_detp 20 rfl (by kernel_rfl) (by kernel_rfl) (by kernel_rfl) (fun _ _ _ _ h => h) .no (D_pureP rfl) rfl ?_
              refine XA_detp 21 rfl (by kernel_rfl) (by kernel_rfl) (by kernel_rfl) (fun _ _ _ _ h => h) (.yes 146 rfl rfl rfl) (D_pureP rfl) rfl ?_
              refine XA_det 23 rfl (by kernel_rfl) (by kernel_rfl) (by kernel_rfl) (by kernel_rfl) (fun _ _ _ _ h => h) (.yes 146 rfl rfl rfl) (D_fld rfl fld_73_0 (o' := 0) rfl) rfl ?_
              refine XA_det 24 rfl (by kernel_rfl) (by kernel_rfl) (by kernel_rfl) (by kernel_rfl) (fun _ _ _ _ h => h) (.yes 146 rfl rfl rfl) (D_ldo rfl (by repeat first | with_reducible exact .here _ _ | with_reducible apply Out.there | with_reducible apply Out.app) tk_3 (by rfl)) rfl ?_
              refine XA_one 22 (by kernel_rfl) ?_
              refine XO_callk rfl (.yes 146 rfl rfl rfl) en_38 rfl (by repeat first | with_reducible exact .nil _ | with_reducible apply App.cons) (sfree bs σ2 m hσ2 hm2) (by repeat first | with_reducible exact .nil _ | with_reducible exact .here _ _ | with_reducible exact Take.self _ | with_reducible apply Take.cons | with_reducible apply Out.there | with_reducible apply Take.skip | with_reducible exact Take.pre _ _ | with_reducible apply Out.app) rfl ?_
              refine XA_detp 25 rfl (by kernel_rfl) (by kernel_rfl) (by kernel_rfl) (fun _ _ _ _ h => h) (.yes 146 rfl rfl rfl) (D_pureP (v := .bool false) (bfn (by rfl))) rfl ?_
              refine XA_detp 26 rfl (by kernel_rfl) (by kernel_rfl) (by kernel_rfl) (fun _ _ _ _ h => h) .no (D_pureP rfl) rfl ?_
              refine XA_detp 27 rfl (by kernel_rfl) (by kernel_rfl) (by kernel_rfl) (fun _ _ _ _ h => h) .no (D_pureP rfl) rfl ?_
              refine XA_detp 28 rfl (by kernel_rfl) (by kernel_rfl) (by kernel_rfl) (fun _ _ _ _ h => h) (.yes 153 rfl rfl rfl) (D_pureP rfl) rfl ?_
              refine XA_det 30 rfl (by kernel_rfl) (by kernel_rfl) (by kernel_rfl) (by kernel_rfl) (fun _ _ _ _ h => h) (.yes 153 rfl rfl rfl) (D_fld rfl fld_73_2 (o' := 17) rfl) rfl ?_
              refine XA_det 31 rfl (by kernel_rfl) (by kernel_rfl) (by kernel_rfl) (by kernel_rfl) (fun _ _ _ _ h => h) (.yes 153 rfl rfl rfl) (D_ldo rfl (by repeat first | with_reducible exact .here _ _ | with_reducible apply Out.there | with_reducible apply Out.app) tk_41 (by rfl)) rfl ?_
              refine XA_one 29 (by kernel_rfl) ?_
              refine XO_callk rfl (.yes 153 rfl rfl rfl) en_39 rfl (by repeat first | with_reducible exact .nil _ | with_reducible apply App.cons) (swaits bs σ2 m hσ2 hm2) (by repeat first | with_reducible exact .nil _ | with_reducible exact .here _ _ | with_reducible exact Take.self _ | with_reducible apply Take.cons | with_reducible apply Out.there | with_reducible apply Take.skip | with_reducible exact Take.pre _ _ | with_reducible apply Out.app) rfl ?_
              refine XA_one 32 (by kernel_rfl) ?_
              refine XO_callk rfl (.yes 153 rfl rfl rfl) en_40 rfl (by repeat first | with_reducible exact .nil _ | with_reducible apply App.cons) (rOf w2 (Rd_own hw2 rfl)) (by repeat first | with_reducible exact .nil _ | with_reducible exact .here _ _ | with_reducible exact Take.self _ | with_reducible apply Take.cons | with_reducible apply Out.there | with_reducible apply Take.skip | with_reducible exact Take.pre _ _ | with_reducible apply Out.app) rfl ?_
              refine XA_detp 33 rfl (by kernel_rfl) (by kernel_rfl) (by kernel_rfl) (fun _ _ _ _ h => h) (.yes 153 rfl rfl rfl) (D_pureP (v := .bool false) (bfn (by rw [hw2l, ofI_listI]))) rfl ?_
              refine XA_detp 34 rfl (by kernel_rfl) (by kernel_rfl) (by kernel_rfl) (fun _ _ _ _ h => h) .no (D_pureP rfl) rfl ?_
              refine XA_detp 35 rfl (by kernel_rfl) (by kernel_rfl) (by kernel_rfl) (fun _ _ _ _ h => h) .no (D_pureP rfl) rfl ?_
              refine XA_detp 36 rfl (by kernel_rfl) (by kernel_rfl) (by kernel_rfl) (fun _ _ _ _ h => h) (.yes 161 rfl rfl rfl) (D_pureP rfl) rfl ?_
              refine XA_one 37 (by kernel_rfl) ?_
              refine XO_callk rfl (.yes 161 rfl rfl rfl) en_41 rfl (by repeat first | with_reducible exact .nil _ | with_reducible apply App.cons) (ssound bs σ2 m hσ2 hm2) (by repeat first | with_reducible exact .nil _ | with_reducible exact .here _ _ | with_reducible exact Take.self _ | with_reducible apply Take.cons | with_reducible apply Out.there | with_reducible apply Take.skip | with_reducible exact Take.pre _ _ | with_reducible apply Out.app) rfl ?_
              refine XA_detp 38 rfl (by kernel_rfl) (by kernel_rfl) (by kernel_rfl) (fun _ _ _ _ h => h) (.yes 161 rfl rfl rfl) (D_pureP (v := .bool false) rfl) rfl ?_
              refine XA_detp 39 rfl (by kernel_rfl) (by kernel_rfl) (by kernel_rfl) (fun _ _ _ _ h => h) .no (D_pureP rfl) rfl ?_
              refine XA_done (by kernel_rfl) ?_
              try simp only [List.cons_append, List.nil_append, List.append_nil]
              refine thenX_normal ?_
              refine X_cond_f rfl rfl ?_
              refine X_skip ?_
              refine thenX_normal ?_
              refine X_seq ?_
              refine X_seq ?_
              refine X_region ?_
              refine XL_det .no (D_pure rfl) rfl ?_
              refine XL_then ?_
              refine X_block ?_
              refine X_loop (α := Nat) (fun k => k ≤ g1.l.length) (fun k => [(18, .int .i64 (k : Int)), (0, .int .i64 m), (1, .slice l.oad l.l.length l.c), (5, .pointer (some ⟨bs, 0, none⟩)), (7, .pointer (some ⟨b1, 0, none⟩)), (8, .int .i64 (i : Int)), (16, .slice g1.oad g1.l.length g1.c), (17, .slice g2.oad g2.l.length g2.c)]) (fun k => [blk bs (sc σ2 m) 129, blk b1 (mc σ2 w2) 73, row (.slice w2.oad w2.l.length w2.c) 3 1 w2.l.length (w2.l.flatMap encI), row (.slice g1.oad g1.l.length g1.c) 3 1 g1.l.length (g1.l.flatMap encI), row (.slice g2.oad g2.l.length g2.c) 3 1 g2.l.length (g2.l.flatMap encI), K]) (fun k => g1.l.length - k) 0 ?_ (by refine ⟨?_, ?_, ?_, ?_, ?_, ?_, ?_, ?_, trivial⟩ <;> rfl) (by repeat first | with_reducible exact .nil _ | with_reducible exact .here _ _ | with_reducible exact Take.self _ | with_reducible apply Take.cons | with_reducible apply Out.there | with_reducible apply Take.skip | with_reducible exact Take.pre _ _ | with_reducible apply Out.app) ?_
              · exact Nat.zero_le _
              · intro k hk
                refine X_seq ?_
                refine X_seq ?_
                refine X_region ?_
                refine XL_det .no (D_pure rfl) rfl ?_
                refine XL_det .no (D_pure rfl) rfl ?_
                refine XL_det .no (D_len rfl rfl slc_41) rfl ?_
                refine XL_det .no (D_pure rfl) rfl ?_
                refine XL_then ?_
                refine X_cond rfl (fun h9 => ?_) (fun h9 => ?_)
                · try simp only [decide_eq_true_eq, decide_eq_false_iff_not, Bool.not_eq_true', Bool.not_eq_false', beq_iff_eq, bne_iff_ne, beq_eq_false_iff_ne, bne_eq_false_iff_eq, Int.not_lt, Int.not_le, gt_iff_lt, ge_iff_le, ne_eq] at h9
                  obtain ⟨y, hgk1⟩ : ∃ y, g1.l[k]? = some y := ⟨_, List.getElem?_eq_getElem (by omega)⟩
                  have hgk2 : g2.l[k]? = some y := by rw [← hgg]; exact hgk1
                  refine X_skip ?_
                  refine thenX_normal ?_
                  refine X_seq ?_
                  refine X_block ?_
                  refine X_seq ?_
                  refine X_draw _ mixed (Take.self _) ?_
                  refine XA_detp 0 rfl (by kernel_rfl) (by kernel_rfl) (by kernel_rfl) (fun _ _ _ _ h => h) .no (D_pureP rfl) rfl ?_
                  refine XA_detp 1 rfl (by kernel_rfl) (by kernel_rfl) (by kernel_rfl) (fun _ _ _ _ h => h) .no (D_pureP rfl) rfl ?_
                  refine XA_det 2 rfl (by kernel_rfl) (by kernel_rfl) (by kernel_rfl) (by kernel_rfl) (fun _ _ _ _ h => h) .no (D_idxSo rfl rfl slc_41 (g1).nil0 rfl (by omega) rfl) rfl ?_
                  refine XA_det 3 rfl (by kernel_rfl) (by kernel_rfl) (by kernel_rfl) (by kernel_rfl) (fun _ _ _ _ h => h) .no (D_ela (enc := encI) (sz := 1) (i := k) (k := 0) (fun _ => rfl) rfl (by repeat first | with_reducible exact .here _ _ | with_reducible apply Out.there | with_reducible apply Out.app) (Rd_own hg1 rfl) tk_3 hgk1 rfl) rfl ?_
                  refine XA_detp 4 rfl (by kernel_rfl) (by kernel_rfl) (by kernel_rfl) (fun _ _ _ _ h => h) .no (D_pureP rfl) rfl ?_
                  refine XA_detp 5 rfl (by kernel_rfl) (by kernel_rfl) (by kernel_rfl) (fun _ _ _ _ h => h) .no (D_pureP rfl) rfl ?_
                  refine XA_det 6 rfl (by kernel_rfl) (by kernel_rfl) (by kernel_rfl) (by kernel_rfl) (fun _ _ _ _ h => h) .no (D_idxSo rfl rfl slc_41 (g2).nil0 rfl (List.getElem?_eq_some_iff.1 hgk2).1 rfl) rfl ?_
                  refine XA_det 7 rfl (by kernel_rfl) (by kernel_rfl) (by kernel_rfl) (by kernel_rfl) (fun _ _ _ _ h => h) .no (D_ela (enc := encI) (sz := 1) (i := k) (k := 0) (fun _ => rfl) rfl (by repeat first | with_reducible exact .here _ _ | with_reducible apply Out.there | with_reducible apply Out.app) (Rd_own hg2 rfl) tk_3 hgk2 rfl) rfl ?_
                  refine XA_detp 8 rfl (by kernel_rfl) (by kernel_rfl) (by kernel_rfl) (fun _ _ _ _ h => h) .no (D_pureP (v := .bool false) (bfn (by rfl))) rfl ?_
                  refine XA_done (by kernel_rfl) ?_
                  try simp only [List.cons_append, List.nil_append, List.append_nil]
                  refine thenX_normal ?_
                  refine X_cond_f rfl rfl ?_
                  refine X_skip ?_
                  refine inBlk_normal ?_
                  refine thenX_normal ?_
                  refine X_region ?_
                  refine XL_det .no (D_pure rfl) rfl ?_
                  refine XL_det .no (D_add rfl rfl (by omega) (by omega)) rfl ?_
                  refine XL_det .no (D_pure rfl) rfl ?_
                  refine XL_nil ?_
                  refine loopQ_next (k + 1) ?_ ?_ ?_ ?_
                  · omega
                  · omega
                  · refine ⟨?_, ?_, ?_, ?_, ?_, ?_, ?_, ?_, trivial⟩ <;> rfl
                  · exact ⟨_, (by repeat first | with_reducible exact .nil _ | with_reducible exact .here _ _ | with_reducible exact Take.self _ | with_reducible apply Take.cons | with_reducible apply Out.there | with_reducible apply Take.skip | with_reducible exact Take.pre _ _ | with_reducible apply Out.app)⟩
                · try simp only [decide_eq_true_eq, decide_eq_false_iff_not, Bool.not_eq_true', Bool.not_eq_false', beq_iff_eq, bne_iff_ne, beq_eq_false_iff_ne, bne_eq_false_iff_eq, Int.not_lt, Int.not_le, gt_iff_lt, ge_iff_le, ne_eq] at h9
                  refine X_exit ?_
                  refine thenX_exit ?_
                  refine loopQ_exit ?_
                  refine inBlk_here ?_
                  refine thenX_normal ?_
                  refine X_seq ?_
                  refine X_region ?_
                  refine XL_det .no (D_pure rfl) rfl ?_
                  refine XL_then ?_
                  refine X_block ?_
                  refine X_loop (α := Nat) (fun n => n ≤ 16) (fun n => [(19, .int .i64 (n : Int)), (0, .int .i64 m), (1, .slice l.oad l.l.length l.c), (5, .pointer (some ⟨bs, 0, none⟩)), (7, .pointer (some ⟨b1, 0, none⟩)), (8, .int .i64 (i : Int))]) (fun n => [blk bs (sc σ2 m) 129, blk b1 (mc σ2 w2) 73, row (.slice w2.oad w2.l.length w2.c) 3 1 w2.l.length (w2.l.flatMap encI), K]) (fun n => 16 - n) 0 ?_ (by refine ⟨?_, ?_, ?_, ?_, ?_, ?_, trivial⟩ <;> rfl) (by repeat first | with_reducible exact .nil _ | with_reducible exact .here _ _ | with_reducible exact Take.self _ | with_reducible apply Take.cons | with_reducible apply Out.there | with_reducible apply Take.skip | with_reducible exact Take.pre _ _ | with_reducible apply Out.app) ?_
                  · exact Nat.zero_le _
                  · intro n hn
                    refine X_seq ?_
                    refine X_seq ?_
                    refine X_region ?_
                    refine XL_det .no (D_pure rfl) rfl ?_
                    refine XL_det .no (D_pure rfl) rfl ?_
                    refine XL_then ?_
                    refine X_cond rfl (fun h10 => ?_) (fun h10 => ?_)
                    · try simp only [decide_eq_true_eq, decide_eq_false_iff_not, Bool.not_eq_true', Bool.not_eq_false', beq_iff_eq, bne_iff_ne, beq_eq_false_iff_ne, bne_eq_false_iff_eq, Int.not_lt, Int.not_le, gt_iff_lt, ge_iff_le, ne_eq] at h10
                      refine X_skip ?_
                      refine thenX_normal ?_
                      refine X_seq ?_
                      refine X_block ?_
                      refine X_seq ?_
                      refine X_draw _ mixed (Take.self _) ?_
                      refine XA_detp 0 rfl (by kernel_rfl) (by kernel_rfl) (by kernel_rfl) (fun _ _ _ _ h => h) .no (D_pureP rfl) rfl ?_
                      refine XA_detp 1 rfl (by kernel_rfl) (by kernel_rfl) (by kernel_rfl) (fun _ _ _ _ h => h) .no (D_pureP rfl) rfl ?_
                      refine XA_detp 3 rfl (by kernel_rfl) (by kernel_rfl) (by kernel_rfl) (fun _ _ _ _ h => h) .no (D_pureP rfl) rfl ?_
                      refine XA_det 4 rfl (by kernel_rfl) (by kernel_rfl) (by kernel_rfl) (by kernel_rfl) (fun _ _ _ _ h => h) .no (D_fld rfl fld_73_1 (o' := 1) rfl) rfl ?_
                      refine XA_det 5 rfl (by kernel_rfl) (by kernel_rfl) (by kernel_rfl) (by kernel_rfl) (fun _ _ _ _ h => h) .no (D_idxA rfl rfl arr_71 rfl (by omega) rfl) rfl ?_
                      refine XA_det 6 rfl (by kernel_rfl) (by kernel_rfl) (by kernel_rfl) (by kernel_rfl) (fun _ _ _ _ h => h) .no (D_ldo rfl (by repeat first | with_reducible exact .here _ _ | with_reducible apply Out.there | with_reducible apply Out.app) tk_3 (mcH (σ := σ2) (w := w2) (j := n) (by omega))) rfl ?_
                      refine XA_one 2 (by kernel_rfl) ?_
                      refine XO_callk rfl .no en_42 rfl (by repeat first | with_reducible exact .nil _ | with_reducible apply App.cons) (shas bs σ2 m hσ2 hm2 n) (by repeat first | with_reducible exact .nil _ | with_reducible exact .here _ _ | with_reducible exact Take.self _ | with_reducible apply Take.cons | with_reducible apply Out.there | with_reducible apply Take.skip | with_reducible exact Take.pre _ _ | with_reducible apply Out.app) rfl ?_
                      rw [if_pos (inB_t (by omega)), Int.toNat_natCast]
                      refine XA_detp 7 rfl (by kernel_rfl) (by kernel_rfl) (by kernel_rfl) (fun _ _ _ _ h => h) .no (D_pureP (v := .bool false) (bfn (by rfl))) rfl ?_
                      refine XA_done (by kernel_rfl) ?_
                      try simp only [List.cons_append, List.nil_append, List.append_nil]
                      refine thenX_normal ?_
                      refine X_cond_f rfl rfl ?_
                      refine X_skip ?_
                      refine inBlk_normal ?_
                      refine thenX_normal ?_
                      refine X_region ?_
                      refine XL_det .no (D_pure rfl) rfl ?_
                      refine XL_det .no (D_add rfl rfl (by omega) (by omega)) rfl ?_
                      refine XL_det .no (D_pure rfl) rfl ?_
                      refine XL_nil ?_
                      refine loopQ_next (n + 1) ?_ ?_ ?_ ?_
                      · omega
                      · omega
                      · refine ⟨?_, ?_, ?_, ?_, ?_, ?_, trivial⟩ <;> rfl
                      · exact ⟨_, (by repeat first | with_reducible exact .nil _ | with_reducible exact .here _ _ | with_reducible exact Take.self _ | with_reducible apply Take.cons | with_reducible apply Out.there | with_reducible apply Take.skip | with_reducible exact Take.pre _ _ | with_reducible apply Out.app)⟩
                    · try simp only [decide_eq_true_eq, decide_eq_false_iff_not, Bool.not_eq_true', Bool.not_eq_false', beq_iff_eq, bne_iff_ne, beq_eq_false_iff_ne, bne_eq_false_iff_eq, Int.not_lt, Int.not_le, gt_iff_lt, ge_iff_le, ne_eq] at h10
                      refine X_exit ?_
                      refine thenX_exit ?_
                      refine loopQ_exit ?_
                      refine inBlk_here ?_
                      refine inBlk_normal ?_
                      refine thenX_normal ?_
                      refine X_region ?_
                      refine XL_det .no (D_pure rfl) rfl ?_
                      refine XL_det .no (D_add rfl rfl (by omega) (by omega)) rfl ?_
                      refine XL_det .no (D_pure rfl) rfl ?_
                      refine XL_nil ?_
                      refine loopQ_next (i + 1, σ2, w2) ?_ ?_ ?_ ?_
                      · (try dsimp only); exact ⟨by omega, hσ2, hw2, hw2l⟩
                      · (try dsimp only); omega
                      · refine ⟨?_, ?_, ?_, ?_, ?_, trivial⟩ <;> rfl
                      · (try dsimp only); exact ⟨_, (by repeat first | with_reducible exact .nil _ | with_reducible exact .here _ _ | with_reducible exact Take.self _ | with_reducible apply Take.cons | with_reducible apply Out.there | with_reducible apply Take.skip | with_reducible exact Take.pre _ _ | with_reducible apply Out.app)⟩
          · try simp only [decide_eq_true_eq, decide_eq_false_iff_not, Bool.not_eq_true', Bool.not_eq_false', beq_iff_eq, bne_iff_ne, beq_eq_false_iff_ne, bne_eq_false_iff_eq, Int.not_lt, Int.not_le, gt_iff_lt, ge_iff_le, ne_eq] at h4
            refine X_exit ?_
            refine thenX_exit ?_
            refine loopQ_exit ?_
            refine inBlk_here ?_
            refine thenX_normal ?_
            refine X_seq ?_
            refine X_region ?_
            refine XL_det .no (D_pure rfl) rfl ?_
            refine XL_callk .no en_42 rfl (shas bs σ m hσ hm2 (-1)) (by repeat first | with_reducible exact .nil _ | with_reducible exact .here _ _ | with_reducible exact Take.self _ | with_reducible apply Take.cons | with_reducible apply Out.there | with_reducible apply Take.skip | with_reducible exact Take.pre _ _ | with_reducible apply Out.app) rfl ?_
            rw [if_neg (by decide)]
            refine XL_det .no (D_pure (v := .bool true) rfl) rfl ?_
            refine XL_det .no (D_pure rfl) rfl ?_
            refine XL_det (.yes 196 rfl rfl rfl) (D_pure rfl) rfl ?_
            refine XL_callk (.yes 196 rfl rfl rfl) en_42 rfl (shas bs σ m hσ hm2 16) (by repeat first | with_reducible exact .nil _ | with_reducible exact .here _ _ | with_reducible exact Take.self _ | with_reducible apply Take.cons | with_reducible apply Out.there | with_reducible apply Take.skip | with_reducible exact Take.pre _ _ | with_reducible apply Out.app) rfl ?_
            rw [if_neg (by decide)]
            refine XL_det (.yes 196 rfl rfl rfl) (D_pure (v := .bool true) rfl) rfl ?_
            refine XL_det .no (D_pure rfl) rfl ?_
            refine XL_det .no (D_pure rfl) rfl ?_
            refine XL_callk (.yes 201 rfl rfl rfl) en_28 rfl (alive52 hK) (by repeat first | with_reducible exact .nil _ | with_reducible exact .here _ _ | with_reducible exact Take.self _ | with_reducible apply Take.cons | with_reducible apply Out.there | with_reducible apply Take.skip | with_reducible exact Take.pre _ _ | with_reducible apply Out.app) rfl ?_
            refine XL_det .no (D_pure rfl) rfl ?_
            refine XL_det .no (D_pure rfl) rfl ?_
            refine XL_then ?_
            refine X_ret ?_
            refine ret_ok (.nil _) (res_tmp rfl rfl) ?_
            exact ⟨_, ⟨rfl, rfl⟩, _, (by repeat first | with_reducible exact .nil _ | with_reducible exact .here _ _ | with_reducible exact Take.self _ | with_reducible apply Take.cons | with_reducible apply Out.there | with_reducible apply Take.skip | with_reducible exact Take.pre _ _ | with_reducible apply Out.app)⟩


theorem semaPlays (l : Arr OpE) (hl : Rd K l.ad (l.l.flatMap encO)) (m : Int) (hK : Rd K ⟨0, 0, none⟩ (tab32.map fun m => .int .u8 m)) : Ctr Tryd.prog B 7 [.int .i64 m, .slice l.oad l.l.length l.c] [K] (fun v S => v = .bool true ∧ S = [K]) := by
  by_cases h : m < 1 ∨ 65536 < m
  · exact semaPlays0 l hl m h hK
  · exact semaPlays1 l hl m (by omega) (by omega) hK

end Go.Proofs.YtdimcgedcndndaaDoor
end

section
namespace Go.Proofs.YtdimcgedcndndaaDoor
open Go Go.Sl Go.ChangeShapes Go.WideShapes Go.ChangeAt Go.RowKit
set_option linter.unusedVariables false
abbrev tabT : Nat := 152
theorem ui_int : Tryd.prog.underlying 3 = some (.int .i64) := by kernel_rfl
theorem eqk_75 : eqKinds Tryd.prog 12 75 = some [some .i64, some .i64] := by kernel_rfl
theorem sl_op : slcOf Tryd.prog 67 = some (75, 2) := by kernel_rfl
theorem sz_op : (Tryd.prog.info? 75).map (·.size) = some 2 := by kernel_rfl
theorem open_op {W : World} {n : Nat} {H : Type} {enc : TypeId × Value → H} {cs : List Value} {x : DataW H × List MemPlace} (hx : DataW.trod enc Tryd.prog W 0 (fun _ => true) true n 75 cs = some x) : ∃ o : OpE, cs = encO o ∧ True := by
  obtain ⟨e, h, hf⟩ := flat_dec eqk_75 sz_op hx
  exact ⟨⟨e 0, e 1⟩, h, trivial⟩

theorem own : ownKnob Tryd.prog.godebug = none := by kernel_rfl
theorem laidOut : laidOutB Tryd.prog = true := by kernel_rfl
abbrev laidT : List (String × DataW Unit) := [("math/bits.deBruijn32tab", Rows.laid_math_bits_deBruijn32tab)]
set_option maxRecDepth 100000 in
theorem laidTab {W : World} (h : laidMetH Tryd.prog laidT W) : Rd (old (B := W.heap.size) W) ⟨0, 0, none⟩ (tab32.map fun m => .int .u8 m) := by
  rw [MakeChecks.laidMetH_plain _ _ _ (by kernel_rfl)] at h
  rw [show laidT = [("math/bits.deBruijn32tab", .agg (tab32.map fun m => .lit (.int .u8 m)))] from by kernel_rfl] at h
  exact laid_row (tab := tab32) (t := tabT) (len := 32) (e := 5) (k := .u8) (by kernel_rfl) (by kernel_rfl) (by kernel_rfl) (by kernel_rfl) (by kernel_rfl) (by decide) h
theorem door_met (os : Os) (args : Array Value) : laidMetH Tryd.prog laidT ((World.doorLaid Tryd.prog 400 os).forCall (fun _ _ => 0) ⟨#[], args, []⟩).memory :=
  laidMetH_of_parts3 (fuel := 8) (laidMet_of_run' 8 (by kernel_rfl) (by kernel_rfl)) (by kernel_rfl) (by kernel_rfl)


set_option maxRecDepth 100000 in
/-- The walk, at the arguments as the row reads them. -/
theorem walkSemaPlays (W : World) (args : Array Value) (hL : laidMetH Tryd.prog laidT W) (h : ArgsOk Tryd.prog W Tryd.f7.params.toList args.toList) : Calls Tryd.prog 7 args W fun e w' => e = .returned (.bool true) ∧ Go.RowKit.Below W.heap.size W w' := by
  rw [show Tryd.f7.params.toList = [3, 67] from by kernel_rfl] at h
  obtain ⟨args⟩ := args
  match args, h with
  | [v0, v1], h =>
    have hK := laidTab hL
    obtain ⟨a0, a1, _⟩ := h
    obtain ⟨m, rfl, _⟩ := arg_int ui_int a0
    obtain ⟨l, rfl, _, hl⟩ := arg_arr (encA := encO) (ok := fun _ => True) sl_op (by decide) a1 (fun n cs x hx => open_op hx)
    exact calls_of (old_self W) ((semaPlays l hl m hK).mono fun _ _ h => h.1)

set_option maxRecDepth 100000 in
theorem liftedSemaPlays (os : Os) (started : os.Started) (H : Type) (enc : TypeId × Value → H) :
    ReturnsInHanded {} Tryd.checked os 7 .any (fun w args => (Rows.semaPlaysSpec.pre enc Tryd.prog Tryd.f7 [] false w args ∧ laidMetH Tryd.prog laidT w) ∧ sizedMet enc Tryd.prog Tryd.f7 (OpenSpec.ofChange Rows.semaPlaysSpec) false w args) (Rows.semaPlaysSpec.post enc Tryd.prog Tryd.f7 false true false false) :=
  handedL (C := Tryd.checked) (tb := 4) own started (by kernel_rfl) Tryd.func7 laidOut (by kernel_rfl) rfl
    (fun ds h => by
      have h : ds.length = 2 := h
      match ds, h with
      | [_, _], _ => exact ⟨rfl, rfl, rfl⟩) (by kernel_rfl) (by kernel_rfl)
    (ChangeSpec.witness_shaped (enc := enc) (C := Tryd.checked) (os := os) (X := fun w _ => laidMetH Tryd.prog laidT w) false (World.doorLaid Tryd.prog 400 os) #[.int .i64 0, .slice none 0 0] 8 rfl (World.shaped_of_RefB (by kernel_rfl) (by kernel_rfl)) (by kernel_rfl) (by kernel_rfl) (by kernel_rfl) (door_met os _))
    (fun W args hL h => walkSemaPlays W args hL h)

theorem overSemaPlays : Rows.SemaPlaysSaid :=
  OpenClaim.holds_of_wide 7 Tryd.f7 rfl rfl rfl rfl rfl rfl rfl ⟨rfl, rfl, rfl, rfl, rfl⟩ rfl rfl rfl rfl rfl (by kernel_rfl) Tryd.func7 (by kernel_rfl)
    (of_decide_eq_true (by kernel_rfl)) (by unfold Func.isWrapper; first | (rw [if_pos (by decide +kernel)]; kernel_rfl) | (rw [if_neg (by decide +kernel)]; exact ⟨rfl, rfl⟩))
    (fun os started H enc _ => liftedSemaPlays os started H enc)

/-- The statement: the tied card. -/
theorem provedSemaPlays : Rows.SemaPlaysCardSaid :=
  Claim7.holds_tied_plain_at .later [] [.data] true (true, "3603e660136b1921cb9f742bc841b9ec612f393fc17fb7707fd169dd1f08532f") false
    overSemaPlays (fun _ h => by cases h) (by kernel_rfl) (fun _ h => by cases h) semaPlays_row_tie rfl ⟨rfl, rfl⟩ (by kernel_rfl) rfl
    (fun f fn hf hfn => by
      obtain rfl : f = 7 := Option.some.inj ((show Tryd.prog.funcNamed "remontoir/remontoirlaw52.SemaPlays" = some 7 by kernel_rfl).symm.trans hf) |>.symm
      obtain rfl : fn = Tryd.f7 := (Option.some.inj (Tryd.func7.symm.trans hfn)).symm
      exact ⟨by kernel_rfl, fun j t ht => by
        have ht : t ∈ Tryd.f7.params.toList := by simpa using Array.mem_of_getElem? ht
        rw [show Tryd.f7.params.toList = [3, 67] from by kernel_rfl] at ht
        have hall : ([3, 67].all fun u => !Tryd.prog.wantsStandIn u) = true := by kernel_rfl
        exact (show Tryd.prog.wantsStandIn t = false by simpa using List.all_eq_true.1 hall t ht)⟩)
    (by kernel_rfl)

#print axioms provedSemaPlays
end Go.Proofs.YtdimcgedcndndaaDoor
end
