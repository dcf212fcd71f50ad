/- The given statement GuardApartSaid is proved: of the jobs of one task that the guard lets come, none comes earlier than one period behind the one before it. Conditions: at most 200 jobs, periods from 1 to 4096, tasks from 0 to 15, ticks from 0 to 2^40, as the statement itself says them; none beside. -/
import Derived.Test.YtbejafkklbmaoaaSl
import Derived.KernelRfl
import Derived.Test.YtbejafkklbmaoaaProg
import Derived.Test.YtbejafkklbmaoaaRows
section
namespace Go.Proofs.Ytbejafkklbmaoaa
open Go Go.Sl
set_option linter.unusedVariables false
set_option linter.unusedSimpArgs false
variable {B : Nat} {K : Asrt B}
theorem arr_35 : arrOf Try.prog 35 = some (16, 1) := by kernel_rfl
theorem en_18 : Go.Proofs.Enters Try.prog 18 := Go.Proofs.enters_of Try.func18 (by kernel_rfl) rfl
theorem en_19 : Go.Proofs.Enters Try.prog 19 := Go.Proofs.enters_of Try.func19 (by kernel_rfl) rfl
theorem en_34 : Go.Proofs.Enters Try.prog 34 := Go.Proofs.enters_of Try.func34 (by kernel_rfl) rfl
theorem en_35 : Go.Proofs.Enters Try.prog 35 := Go.Proofs.enters_of Try.func35 (by kernel_rfl) rfl
theorem en_36 : Go.Proofs.Enters Try.prog 36 := Go.Proofs.enters_of Try.func36 (by kernel_rfl) rfl
theorem en_37 : Go.Proofs.Enters Try.prog 37 := Go.Proofs.enters_of Try.func37 (by kernel_rfl) rfl
theorem fld_53_0 : fldOff Try.prog 53 0 = some 0 := by kernel_rfl
theorem fld_53_1 : fldOff Try.prog 53 1 = some 16 := by kernel_rfl
theorem mixed : Try.prog.follows .mixedOrders = true := by kernel_rfl
theorem slc_50 : slcOf Try.prog 50 = some (3, 1) := by kernel_rfl
theorem tk_3 : tyK Try.prog 3 = some (false, 1) := by kernel_rfl
theorem ub_4 : Try.prog.underlying 4 = some .bool := by kernel_rfl
theorem zero_53 : zeroOf Try.prog 53 = some [.int .i64 0, .int .i64 0, .int .i64 0, .int .i64 0, .int .i64 0, .int .i64 0, .int .i64 0, .int .i64 0, .int .i64 0, .int .i64 0, .int .i64 0, .int .i64 0, .int .i64 0, .int .i64 0, .int .i64 0, .int .i64 0, .int .i64 0, .int .i64 0, .int .i64 0, .int .i64 0, .int .i64 0, .int .i64 0, .int .i64 0, .int .i64 0, .int .i64 0, .int .i64 0, .int .i64 0, .int .i64 0, .int .i64 0, .int .i64 0, .int .i64 0, .int .i64 0] := by kernel_rfl
theorem zk_53 : (match Try.prog.underlying 53 with | some (.struct _) => (bldOf Try.prog 53).isSome | some (.array _ e) => (Try.prog.info? e).isSome | _ => false) = true := by kernel_rfl

abbrev gc (f d : Nat → Int) : List Value := rowI 16 f ++ rowI 16 d
def inG (t : Int) : Bool := decide (0 ≤ t ∧ t < 16)
def cameV (f : Nat → Int) (t now : Int) : Bool := inG t && decide (f t.toNat ≤ now)
def cameF (f : Nat → Int) (t now p : Int) : Nat → Int := if cameV f t now then upd f t.toNat (now + min (max p 1) 4096) else f
def cameD (f d : Nat → Int) (t now : Int) : Nat → Int := if inG t && !cameV f t now then upd d t.toNat (min (d t.toNat + 1) 4096) else d
theorem inG_t {t : Int} (h1 : 0 ≤ t) (h2 : t < 16) : inG t = true := by simp [inG, h1, h2]
theorem inG_f {t : Int} (h : ¬ (0 ≤ t ∧ t < 16)) : inG t = false := by simp [inG]; omega
theorem inG_iff {t : Int} : inG t = true ↔ 0 ≤ t ∧ t < 16 := by simp [inG]
theorem cameV_t {f : Nat → Int} {j : Nat} {now : Int} (h : j < 16) (h2 : f j ≤ now) : cameV f j now = true := by simp [cameV, inG, h2]; omega
theorem cameV_f {f : Nat → Int} {j : Nat} {now : Int} (h2 : now < f j) : cameV f j now = false := by simp [cameV]; intro _; omega
theorem cameV_o {f : Nat → Int} {t now : Int} (h : inG t = false) : cameV f t now = false := by simp [cameV, h]
theorem cameF_t {f : Nat → Int} {t now p : Int} (h : cameV f t now = true) : cameF f t now p = upd f t.toNat (now + min (max p 1) 4096) := by simp [cameF, h]
theorem cameF_f {f : Nat → Int} {t now p : Int} (h : cameV f t now = false) : cameF f t now p = f := by simp [cameF, h]
theorem cameD_t {f d : Nat → Int} {t now : Int} (h : cameV f t now = true) : cameD f d t now = d := by simp [cameD, h]
theorem cameD_o {f d : Nat → Int} {t now : Int} (h : inG t = false) : cameD f d t now = d := by simp [cameD, h]
theorem cameD_f {f d : Nat → Int} {t now : Int} (h0 : inG t = true) (h : cameV f t now = false) : cameD f d t now = upd d t.toNat (min (d t.toNat + 1) 4096) := by simp [cameD, h0, h]
theorem gcF_get {f d : Nat → Int} {j : Nat} (h : j < 16) : (gc f d)[0 + j * 1]? = some (.int .i64 (f j)) := by rw [Nat.zero_add, Nat.mul_one]; exact app_get1 (rowF_get h)
theorem gcD_get {f d : Nat → Int} {j : Nat} (h : j < 16) : (gc f d)[16 + j * 1]? = some (.int .i64 (d j)) := by rw [Nat.mul_one]; exact app_get2 (rowF_len _ _ _) (rowF_get h)
theorem gcF_set {f d : Nat → Int} {j : Nat} {v : Int} (h : j < 16) : (gc f d).set (0 + j * 1) (.int .i64 v) = gc (upd f j v) d := by rw [Nat.zero_add, Nat.mul_one, app_set1 (by rw [rowF_len]; exact h)]; exact congrArg (· ++ _) (rowF_set (c := fun m => Value.int .i64 m) (v := v))
theorem gcD_set {f d : Nat → Int} {j : Nat} {v : Int} : (gc f d).set (16 + j * 1) (.int .i64 v) = gc f (upd d j v) := by rw [Nat.mul_one, app_set2 (rowF_len _ _ _)]; exact congrArg (_ ++ ·) (rowF_set (c := fun m => Value.int .i64 m) (v := v))
theorem gc_lt {f d : Nat → Int} {k : Nat} (h : k < 32) : Nat.blt k (gc f d).length = true := by simp [rowF_len]; omega

theorem gin (t : Int) : Ctr Try.prog B 34 [.int .i64 t] [] (fun v S => v = .bool (inG t) ∧ S = []) := by
  refine Ctr_of_X (N := 9) Try.func34 rfl (by simp) rfl ?_
  intro w0 D0
  refine X_seq ?_
  refine X_region ?_
  refine XL_det .no (D_pure rfl) rfl ?_
  refine XL_then ?_
  refine X_seq ?_
  refine X_region ?_
  refine XL_det .no (D_pure rfl) rfl ?_
  refine XL_det .no (D_pure rfl) rfl ?_
  refine XL_det .no (D_pure rfl) rfl ?_
  refine XL_split (t := 5) rfl (fun h1 => ?_) (fun h1 => ?_)
  · try simp only [decide_eq_true_eq, decide_eq_false_iff_not, Bool.not_eq_true', Bool.not_eq_false', beq_iff_eq, bne_iff_ne, beq_eq_false_iff_ne, bne_eq_false_iff_eq, Int.not_lt, Int.not_le, gt_iff_lt, ge_iff_le, ne_eq] at h1
    refine XL_det (.yes 5 rfl rfl rfl) (D_pure rfl) rfl ?_
    refine XL_det (.yes 5 rfl rfl rfl) (D_pure rfl) rfl ?_
    refine XL_det .no (D_pure rfl) rfl ?_
    refine XL_det .no (D_pure rfl) rfl ?_
    refine XL_then ?_
    refine X_ret ?_
    refine ret_ok (.nil _) (res_tmp rfl rfl) ?_
    exact ⟨_, ⟨by rw [show inG t = decide (t < 16) from by simp [inG, h1]], rfl⟩, _, (by repeat first | with_reducible exact .nil _ | with_reducible exact .here _ _ | with_reducible apply Take.cons | with_reducible apply Out.there)⟩
  · try simp only [decide_eq_true_eq, decide_eq_false_iff_not, Bool.not_eq_true', Bool.not_eq_false', beq_iff_eq, bne_iff_ne, beq_eq_false_iff_ne, bne_eq_false_iff_eq, Int.not_lt, Int.not_le, gt_iff_lt, ge_iff_le, ne_eq] at h1
    refine XL_skip 5 rfl rfl rfl rfl rfl ?_
    refine XL_skip 5 rfl rfl rfl rfl rfl ?_
    refine XL_det .no (D_pure rfl) rfl ?_
    refine XL_det .no (D_pure rfl) rfl ?_
    refine XL_then ?_
    refine X_ret ?_
    refine ret_ok (.nil _) (res_tmp rfl rfl) ?_
    exact ⟨_, ⟨by rw [inG_f (by omega)], rfl⟩, _, (by repeat first | with_reducible exact .nil _ | with_reducible exact .here _ _ | with_reducible apply Take.cons | with_reducible apply Out.there)⟩

theorem gcame (b : Nat) (f d : Nat → Int) (t now p : Int) (hn : now ≤ 4611686018427387904) (hn0 : -9223372036854775808 ≤ now) (hd : ∀ k, -1 ≤ d k ∧ d k ≤ 4096) : Ctr Try.prog B 18 [.pointer (some ⟨b, 0, none⟩), .int .i64 t, .int .i64 now, .int .i64 p] [blk b (gc f d) 53] (fun v S => v = .bool (cameV f t now) ∧ S = [blk b (gc (cameF f t now p) (cameD f d t now)) 53]) := by
  refine Ctr_of_X (N := 43) Try.func18 rfl (by simp) rfl ?_
  intro w0 D0
  refine X_seq ?_
  refine X_region ?_
  refine XL_det .no (D_pure rfl) rfl ?_
  refine XL_then ?_
  refine X_seq ?_
  refine X_seq ?_
  refine X_region ?_
  refine XL_det .no (D_pure rfl) rfl ?_
  refine XL_callv .no en_34 rfl (gin _) rfl ?_
  refine XL_det .no (D_pure rfl) rfl ?_
  refine XL_then ?_
  refine X_cond rfl (fun h1 => ?_) (fun h1 => ?_)
  · try simp only [decide_eq_true_eq, decide_eq_false_iff_not, Bool.not_eq_true', Bool.not_eq_false', beq_iff_eq, bne_iff_ne, beq_eq_false_iff_ne, bne_eq_false_iff_eq, Int.not_lt, Int.not_le, gt_iff_lt, ge_iff_le, ne_eq] at h1
    refine X_seq ?_
    refine X_region ?_
    refine XL_det .no (D_pure rfl) rfl ?_
    refine XL_then ?_
    refine X_ret ?_
    refine thenX_ret ?_
    refine ret_ok (.nil _) (res_tmp rfl rfl) ?_
    exact ⟨_, ⟨by rw [cameV_o h1], by rw [cameF_f (cameV_o h1), cameD_o h1]⟩, _, (by repeat first | with_reducible exact .nil _ | with_reducible exact .here _ _ | with_reducible apply Take.cons | with_reducible apply Out.there)⟩
  · try simp only [decide_eq_true_eq, decide_eq_false_iff_not, Bool.not_eq_true', Bool.not_eq_false', beq_iff_eq, bne_iff_ne, beq_eq_false_iff_ne, bne_eq_false_iff_eq, Int.not_lt, Int.not_le, gt_iff_lt, ge_iff_le, ne_eq] at h1
    rw [inG_iff] at h1
    obtain ⟨j, rfl⟩ := Int.eq_ofNat_of_zero_le h1.1
    refine X_skip ?_
    refine thenX_normal ?_
    refine X_seq ?_
    refine X_seq ?_
    refine X_region ?_
    refine XL_det .no (D_pure rfl) rfl ?_
    refine XL_det .no (D_pure rfl) rfl ?_
    refine XL_det .no (D_pure rfl) rfl ?_
    refine XL_det .no (D_nilck rfl) rfl ?_
    refine XL_det .no (D_fld rfl fld_53_0 (o' := 0) rfl) rfl ?_
    refine XL_det .no (D_idxA rfl rfl arr_35 rfl (by omega) rfl) rfl ?_
    refine XL_det .no (D_ldo rfl (by repeat first | with_reducible exact .here _ _ | with_reducible apply Out.there) tk_3 (gcF_get (by omega))) rfl ?_
    refine XL_det .no (D_pure rfl) rfl ?_
    refine XL_then ?_
    refine X_cond rfl (fun h2 => ?_) (fun h2 => ?_)
    · try simp only [decide_eq_true_eq, decide_eq_false_iff_not, Bool.not_eq_true', Bool.not_eq_false', beq_iff_eq, bne_iff_ne, beq_eq_false_iff_ne, bne_eq_false_iff_eq, Int.not_lt, Int.not_le, gt_iff_lt, ge_iff_le, ne_eq] at h2
      have hdj := hd j
      refine X_seq ?_
      refine X_draw _ mixed (Take.self _) ?_
      refine XA_det 0 rfl (by kernel_rfl) (by kernel_rfl) (by kernel_rfl) (by kernel_rfl) (fun _ _ _ _ h => h) .no (D_pure rfl) rfl ?_
      refine XA_det 1 rfl (by kernel_rfl) (by kernel_rfl) (by kernel_rfl) (by kernel_rfl) (fun _ _ _ _ h => h) .no (D_pure rfl) rfl ?_
      refine XA_det 2 rfl (by kernel_rfl) (by kernel_rfl) (by kernel_rfl) (by kernel_rfl) (fun _ _ _ _ h => h) .no (D_pure rfl) rfl ?_
      refine XA_det 3 rfl (by kernel_rfl) (by kernel_rfl) (by kernel_rfl) (by kernel_rfl) (fun _ _ _ _ h => h) .no (D_pure rfl) rfl ?_
      refine XA_det 4 rfl (by kernel_rfl) (by kernel_rfl) (by kernel_rfl) (by kernel_rfl) (fun _ _ _ _ h => h) .no (D_nilck rfl) rfl ?_
      refine XA_det 5 rfl (by kernel_rfl) (by kernel_rfl) (by kernel_rfl) (by kernel_rfl) (fun _ _ _ _ h => h) .no (D_fld rfl fld_53_1 (o' := 16) rfl) rfl ?_
      refine XA_det 6 rfl (by kernel_rfl) (by kernel_rfl) (by kernel_rfl) (by kernel_rfl) (fun _ _ _ _ h => h) .no (D_idxA rfl rfl arr_35 rfl (by omega) rfl) rfl ?_
      refine XA_det 7 rfl (by kernel_rfl) (by kernel_rfl) (by kernel_rfl) (by kernel_rfl) (fun _ _ _ _ h => h) .no (D_ldo rfl (by repeat first | with_reducible exact .here _ _ | with_reducible apply Out.there) tk_3 (gcD_get (by omega))) rfl ?_
      refine XA_det 8 rfl (by kernel_rfl) (by kernel_rfl) (by kernel_rfl) (by kernel_rfl) (fun _ _ _ _ h => h) .no (D_add rfl rfl (by omega) (by omega)) rfl ?_
      refine XA_det 9 rfl (by kernel_rfl) (by kernel_rfl) (by kernel_rfl) (by kernel_rfl) (fun _ _ _ _ h => h) .no (D_min rfl rfl) rfl ?_
      refine XA_det 10 rfl (by kernel_rfl) (by kernel_rfl) (by kernel_rfl) (by kernel_rfl) (fun _ _ _ _ h => h) .no (D_nilck rfl) rfl ?_
      refine XA_det 11 rfl (by kernel_rfl) (by kernel_rfl) (by kernel_rfl) (by kernel_rfl) (fun _ _ _ _ h => h) .no (D_fld rfl fld_53_1 (o' := 16) rfl) rfl ?_
      refine XA_det 12 rfl (by kernel_rfl) (by kernel_rfl) (by kernel_rfl) (by kernel_rfl) (fun _ _ _ _ h => h) .no (D_idxA rfl rfl arr_35 rfl (by omega) rfl) rfl ?_
      refine XA_one 13 (by kernel_rfl) ?_
      refine XO_efd rfl .no (by repeat first | with_reducible exact .nil _ | with_reducible apply App.cons) (F_st rfl rfl rfl (by repeat first | with_reducible exact .here _ _ | with_reducible apply Out.there) tk_3 (gc_lt (by omega)) (gcD_set)) (by kernel_rfl) ?_
      refine XA_done (by kernel_rfl) ?_
      try simp only [List.cons_append, List.nil_append, List.append_nil]
      refine thenX_normal ?_
      refine X_seq ?_
      refine X_region ?_
      refine XL_det .no (D_pure rfl) rfl ?_
      refine XL_then ?_
      refine X_ret ?_
      refine thenX_ret ?_
      refine ret_ok (.nil _) (res_tmp rfl rfl) ?_
      exact ⟨_, ⟨by rw [cameV_f h2], by rw [cameF_f (cameV_f h2), cameD_f (inG_t (by omega) (by omega)) (cameV_f h2), Int.toNat_natCast]⟩, _, (by repeat first | with_reducible exact .nil _ | with_reducible exact .here _ _ | with_reducible apply Take.cons | with_reducible apply Out.there)⟩
    · try simp only [decide_eq_true_eq, decide_eq_false_iff_not, Bool.not_eq_true', Bool.not_eq_false', beq_iff_eq, bne_iff_ne, beq_eq_false_iff_ne, bne_eq_false_iff_eq, Int.not_lt, Int.not_le, gt_iff_lt, ge_iff_le, ne_eq] at h2
      refine X_skip ?_
      refine thenX_normal ?_
      refine X_seq ?_
      refine X_region ?_
      refine XL_det .no (D_pure rfl) rfl ?_
      refine XL_det .no (D_pure rfl) rfl ?_
      refine XL_det .no (D_pure rfl) rfl ?_
      refine XL_det .no (D_pure rfl) rfl ?_
      refine XL_det .no (D_max rfl rfl) rfl ?_
      refine XL_det .no (D_min rfl rfl) rfl ?_
      refine XL_det .no (D_add rfl rfl (by omega) (by omega)) rfl ?_
      refine XL_det .no (D_nilck rfl) rfl ?_
      refine XL_det .no (D_fld rfl fld_53_0 (o' := 0) rfl) rfl ?_
      refine XL_det .no (D_idxA rfl rfl arr_35 rfl (by omega) rfl) rfl ?_
      refine XL_efd .no (F_st rfl rfl rfl (by repeat first | with_reducible exact .here _ _ | with_reducible apply Out.there) tk_3 (gc_lt (by omega)) (gcF_set (by omega))) ?_
      refine XL_then ?_
      refine X_seq ?_
      refine X_region ?_
      refine XL_det .no (D_pure rfl) rfl ?_
      refine XL_then ?_
      refine X_ret ?_
      refine ret_ok (.nil _) (res_tmp rfl rfl) ?_
      exact ⟨_, ⟨by rw [cameV_t (by omega) h2], by rw [cameF_t (cameV_t (by omega) h2), cameD_t (cameV_t (by omega) h2), Int.toNat_natCast]⟩, _, (by repeat first | with_reducible exact .nil _ | with_reducible exact .here _ _ | with_reducible apply Take.cons | with_reducible apply Out.there)⟩

theorem gmay (b : Nat) (f d : Nat → Int) (t now : Int) : Ctr Try.prog B 35 [.pointer (some ⟨b, 0, none⟩), .int .i64 t, .int .i64 now] [blk b (gc f d) 53] (fun v S => v = .bool (cameV f t now) ∧ S = [blk b (gc f d) 53]) := by
  refine Ctr_of_X (N := 19) Try.func35 rfl (by simp) rfl ?_
  intro w0 D0
  refine X_seq ?_
  refine X_region ?_
  refine XL_det .no (D_pure rfl) rfl ?_
  refine XL_then ?_
  refine X_seq ?_
  refine X_region ?_
  refine XL_det .no (D_pure rfl) rfl ?_
  refine XL_callv .no en_34 rfl (gin _) rfl ?_
  refine XL_det .no (D_pure rfl) rfl ?_
  refine XL_split (t := 9) rfl (fun h1 => ?_) (fun h1 => ?_)
  · try simp only [decide_eq_true_eq, decide_eq_false_iff_not, Bool.not_eq_true', Bool.not_eq_false', beq_iff_eq, bne_iff_ne, beq_eq_false_iff_ne, bne_eq_false_iff_eq, Int.not_lt, Int.not_le, gt_iff_lt, ge_iff_le, ne_eq] at h1
    rw [inG_iff] at h1
    obtain ⟨j, rfl⟩ := Int.eq_ofNat_of_zero_le h1.1
    refine XL_det (.yes 9 rfl rfl rfl) (D_pure rfl) rfl ?_
    refine XL_det (.yes 9 rfl rfl rfl) (D_pure rfl) rfl ?_
    refine XL_det (.yes 9 rfl rfl rfl) (D_pure rfl) rfl ?_
    refine XL_det (.yes 9 rfl rfl rfl) (D_nilck rfl) rfl ?_
    refine XL_det (.yes 9 rfl rfl rfl) (D_fld rfl fld_53_0 (o' := 0) rfl) rfl ?_
    refine XL_det (.yes 9 rfl rfl rfl) (D_idxA rfl rfl arr_35 rfl (by omega) rfl) rfl ?_
    refine XL_det (.yes 9 rfl rfl rfl) (D_ldo rfl (by repeat first | with_reducible exact .here _ _ | with_reducible apply Out.there) tk_3 (gcF_get (by omega))) rfl ?_
    refine XL_det (.yes 9 rfl rfl rfl) (D_pure rfl) rfl ?_
    refine XL_det .no (D_pure rfl) rfl ?_
    refine XL_det .no (D_pure rfl) rfl ?_
    refine XL_then ?_
    refine X_ret ?_
    refine ret_ok (.nil _) (res_tmp rfl rfl) ?_
    exact ⟨_, ⟨by rw [cameV, inG_t (by omega) (by omega)]; rfl, rfl⟩, _, (by repeat first | with_reducible exact .nil _ | with_reducible exact .here _ _ | with_reducible apply Take.cons | with_reducible apply Out.there)⟩
  · try simp only [decide_eq_true_eq, decide_eq_false_iff_not, Bool.not_eq_true', Bool.not_eq_false', beq_iff_eq, bne_iff_ne, beq_eq_false_iff_ne, bne_eq_false_iff_eq, Int.not_lt, Int.not_le, gt_iff_lt, ge_iff_le, ne_eq] at h1
    refine XL_skip 9 rfl rfl rfl rfl rfl ?_
    refine XL_skip 9 rfl rfl rfl rfl rfl ?_
    refine XL_skip 9 rfl rfl rfl rfl rfl ?_
    refine XL_skip 9 rfl rfl rfl rfl rfl ?_
    refine XL_skip 9 rfl rfl rfl rfl rfl ?_
    refine XL_skip 9 rfl rfl rfl rfl rfl ?_
    refine XL_skip 9 rfl rfl rfl rfl rfl ?_
    refine XL_skip 9 rfl rfl rfl rfl rfl ?_
    refine XL_det .no (D_pure rfl) rfl ?_
    refine XL_det .no (D_pure rfl) rfl ?_
    refine XL_then ?_
    refine X_ret ?_
    refine ret_ok (.nil _) (res_tmp rfl rfl) ?_
    exact ⟨_, ⟨by rw [cameV_o h1], rfl⟩, _, (by repeat first | with_reducible exact .nil _ | with_reducible exact .here _ _ | with_reducible apply Take.cons | with_reducible apply Out.there)⟩

theorem gdropped (b : Nat) (f d : Nat → Int) (t : Int) : Ctr Try.prog B 36 [.pointer (some ⟨b, 0, none⟩), .int .i64 t] [blk b (gc f d) 53] (fun v S => v = .int .i64 (if inG t then d t.toNat else 0) ∧ S = [blk b (gc f d) 53]) := by
  refine Ctr_of_X (N := 14) Try.func36 rfl (by simp) rfl ?_
  intro w0 D0
  refine X_seq ?_
  refine X_region ?_
  refine XL_det .no (D_pure rfl) rfl ?_
  refine XL_then ?_
  refine X_seq ?_
  refine X_seq ?_
  refine X_region ?_
  refine XL_det .no (D_pure rfl) rfl ?_
  refine XL_callv .no en_34 rfl (gin _) rfl ?_
  refine XL_det .no (D_pure rfl) rfl ?_
  refine XL_then ?_
  refine X_cond rfl (fun h1 => ?_) (fun h1 => ?_)
  · try simp only [decide_eq_true_eq, decide_eq_false_iff_not, Bool.not_eq_true', Bool.not_eq_false', beq_iff_eq, bne_iff_ne, beq_eq_false_iff_ne, bne_eq_false_iff_eq, Int.not_lt, Int.not_le, gt_iff_lt, ge_iff_le, ne_eq] at h1
    refine X_seq ?_
    refine X_region ?_
    refine XL_det .no (D_pure rfl) rfl ?_
    refine XL_then ?_
    refine X_ret ?_
    refine thenX_ret ?_
    refine ret_ok (.nil _) (res_tmp rfl rfl) ?_
    exact ⟨_, ⟨by rw [h1]; rfl, rfl⟩, _, (by repeat first | with_reducible exact .nil _ | with_reducible exact .here _ _ | with_reducible apply Take.cons | with_reducible apply Out.there)⟩
  · try simp only [decide_eq_true_eq, decide_eq_false_iff_not, Bool.not_eq_true', Bool.not_eq_false', beq_iff_eq, bne_iff_ne, beq_eq_false_iff_ne, bne_eq_false_iff_eq, Int.not_lt, Int.not_le, gt_iff_lt, ge_iff_le, ne_eq] at h1
    rw [inG_iff] at h1
    obtain ⟨j, rfl⟩ := Int.eq_ofNat_of_zero_le h1.1
    refine X_skip ?_
    refine thenX_normal ?_
    refine X_seq ?_
    refine X_region ?_
    refine XL_det .no (D_pure rfl) rfl ?_
    refine XL_det .no (D_pure rfl) rfl ?_
    refine XL_det .no (D_nilck rfl) rfl ?_
    refine XL_det .no (D_fld rfl fld_53_1 (o' := 16) rfl) rfl ?_
    refine XL_det .no (D_idxA rfl rfl arr_35 rfl (by omega) rfl) rfl ?_
    refine XL_det .no (D_ldo rfl (by repeat first | with_reducible exact .here _ _ | with_reducible apply Out.there) tk_3 (gcD_get (by omega))) rfl ?_
    refine XL_det .no (D_pure rfl) rfl ?_
    refine XL_then ?_
    refine X_ret ?_
    refine ret_ok (.nil _) (res_tmp rfl rfl) ?_
    exact ⟨_, ⟨by rw [inG_t (by omega) (by omega)]; rfl, rfl⟩, _, (by repeat first | with_reducible exact .nil _ | with_reducible exact .here _ _ | with_reducible apply Take.cons | with_reducible apply Out.there)⟩

theorem gfrom (b : Nat) (f d : Nat → Int) (t : Int) : Ctr Try.prog B 37 [.pointer (some ⟨b, 0, none⟩), .int .i64 t] [blk b (gc f d) 53] (fun v S => v = .int .i64 (if inG t then f t.toNat else 0) ∧ S = [blk b (gc f d) 53]) := by
  refine Ctr_of_X (N := 14) Try.func37 rfl (by simp) rfl ?_
  intro w0 D0
  refine X_seq ?_
  refine X_region ?_
  refine XL_det .no (D_pure rfl) rfl ?_
  refine XL_then ?_
  refine X_seq ?_
  refine X_seq ?_
  refine X_region ?_
  refine XL_det .no (D_pure rfl) rfl ?_
  refine XL_callv .no en_34 rfl (gin _) rfl ?_
  refine XL_det .no (D_pure rfl) rfl ?_
  refine XL_then ?_
  refine X_cond rfl (fun h1 => ?_) (fun h1 => ?_)
  · try simp only [decide_eq_true_eq, decide_eq_false_iff_not, Bool.not_eq_true', Bool.not_eq_false', beq_iff_eq, bne_iff_ne, beq_eq_false_iff_ne, bne_eq_false_iff_eq, Int.not_lt, Int.not_le, gt_iff_lt, ge_iff_le, ne_eq] at h1
    refine X_seq ?_
    refine X_region ?_
    refine XL_det .no (D_pure rfl) rfl ?_
    refine XL_then ?_
    refine X_ret ?_
    refine thenX_ret ?_
    refine ret_ok (.nil _) (res_tmp rfl rfl) ?_
    exact ⟨_, ⟨by rw [h1]; rfl, rfl⟩, _, (by repeat first | with_reducible exact .nil _ | with_reducible exact .here _ _ | with_reducible apply Take.cons | with_reducible apply Out.there)⟩
  · try simp only [decide_eq_true_eq, decide_eq_false_iff_not, Bool.not_eq_true', Bool.not_eq_false', beq_iff_eq, bne_iff_ne, beq_eq_false_iff_ne, bne_eq_false_iff_eq, Int.not_lt, Int.not_le, gt_iff_lt, ge_iff_le, ne_eq] at h1
    rw [inG_iff] at h1
    obtain ⟨j, rfl⟩ := Int.eq_ofNat_of_zero_le h1.1
    refine X_skip ?_
    refine thenX_normal ?_
    refine X_seq ?_
    refine X_region ?_
    refine XL_det .no (D_pure rfl) rfl ?_
    refine XL_det .no (D_pure rfl) rfl ?_
    refine XL_det .no (D_nilck rfl) rfl ?_
    refine XL_det .no (D_fld rfl fld_53_0 (o' := 0) rfl) rfl ?_
    refine XL_det .no (D_idxA rfl rfl arr_35 rfl (by omega) rfl) rfl ?_
    refine XL_det .no (D_ldo rfl (by repeat first | with_reducible exact .here _ _ | with_reducible apply Out.there) tk_3 (gcF_get (by omega))) rfl ?_
    refine XL_det .no (D_pure rfl) rfl ?_
    refine XL_then ?_
    refine X_ret ?_
    refine ret_ok (.nil _) (res_tmp rfl rfl) ?_
    exact ⟨_, ⟨by rw [inG_t (by omega) (by omega)]; rfl, rfl⟩, _, (by repeat first | with_reducible exact .nil _ | with_reducible exact .here _ _ | with_reducible apply Take.cons | with_reducible apply Out.there)⟩


def dOk (d : Nat → Int) : Prop := ∀ k, 0 ≤ d k ∧ d k ≤ 4096
theorem dOk.lo {d : Nat → Int} (h : dOk d) : ∀ k, -1 ≤ d k ∧ d k ≤ 4096 := fun k => ⟨by have := h k; omega, (h k).2⟩
theorem cameD_ok {f d : Nat → Int} {t now : Int} (h : dOk d) : dOk (cameD f d t now) := by
  unfold cameD
  split
  · intro k
    by_cases hk : k = t.toNat
    · subst hk; rw [upd_same]; have := h t.toNat; omega
    · rw [upd_ne _ _ hk]; exact h k
  · exact h
theorem cameV_lt {f : Nat → Int} {j : Nat} {now : Int} (hj : j < 16) (h : cameV f j now = false) : now < f j := by
  rcases Int.lt_or_le now (f j) with h' | h'
  · exact h'
  · rw [cameV_t hj h'] at h; cases h
theorem cameV_le {f : Nat → Int} {j : Nat} {now : Int} (h : cameV f j now = true) : f j ≤ now := by
  rcases Int.lt_or_le now (f j) with h' | h'
  · rw [cameV_f h'] at h; cases h
  · exact h'
abbrev z0 : Nat → Int := fun _ => 0
theorem z0_ok : dOk z0 := fun k => by show (0 : Int) ≤ 0 ∧ (0 : Int) ≤ 4096; decide

theorem alive24  : Ctr Try.prog B 19 [] [] (fun v S => v = .bool true ∧ S = []) := by
  refine Ctr_of_X (N := 25) Try.func19 rfl (by simp) rfl ?_
  intro w0 D0
  refine X_seq ?_
  refine X_region ?_
  refine XL_det .no (D_pure rfl) rfl ?_
  refine XL_then ?_
  refine X_seq ?_
  refine X_region ?_
  refine XL_det .no (D_zero zero_53 zk_53) rfl ?_
  refine XL_box (cs := gc z0 z0) .no rfl rfl rfl (fun b1 => ?_)
  refine XL_det .no (D_pure rfl) rfl ?_
  refine XL_then ?_
  refine X_seq ?_
  refine X_region ?_
  refine XL_det .no (D_pure rfl) rfl ?_
  refine XL_call .no en_18 rfl (gcame _ z0 z0 0 5 10 (by decide) (by decide) z0_ok.lo) (by repeat first | with_reducible exact .nil _ | with_reducible exact .here _ _ | with_reducible apply Take.cons | with_reducible apply Out.there) rfl ?_
  rintro _ _ ⟨rfl, rfl⟩
  simp only [List.cons_append, List.nil_append]
  refine XL_det .no (D_pure rfl) rfl ?_
  refine XL_det (.yes 6 rfl rfl rfl) (D_pure rfl) rfl ?_
  refine XL_call (.yes 6 rfl rfl rfl) en_18 rfl (gcame _ (cameF z0 0 5 10) (cameD z0 z0 0 5) 0 14 10 (by decide) (by decide) (cameD_ok z0_ok).lo) (by repeat first | with_reducible exact .nil _ | with_reducible exact .here _ _ | with_reducible apply Take.cons | with_reducible apply Out.there) rfl ?_
  rintro _ _ ⟨rfl, rfl⟩
  simp only [List.cons_append, List.nil_append]
  refine XL_det (.yes 6 rfl rfl rfl) (D_pure rfl) rfl ?_
  refine XL_det .no (D_pure rfl) rfl ?_
  refine XL_det .no (D_pure rfl) rfl ?_
  refine XL_det (.yes 11 rfl rfl rfl) (D_pure rfl) rfl ?_
  refine XL_call (.yes 11 rfl rfl rfl) en_35 rfl (gmay _ (cameF (cameF z0 0 5 10) 0 14 10) (cameD (cameF z0 0 5 10) (cameD z0 z0 0 5) 0 14) 0 15) (by repeat first | with_reducible exact .nil _ | with_reducible exact .here _ _ | with_reducible apply Take.cons | with_reducible apply Out.there) rfl ?_
  rintro _ _ ⟨rfl, rfl⟩
  simp only [List.cons_append, List.nil_append]
  refine XL_det .no (D_pure rfl) rfl ?_
  refine XL_det .no (D_pure rfl) rfl ?_
  refine XL_det (.yes 15 rfl rfl rfl) (D_pure rfl) rfl ?_
  refine XL_call (.yes 15 rfl rfl rfl) en_36 rfl (gdropped _ (cameF (cameF z0 0 5 10) 0 14 10) (cameD (cameF z0 0 5 10) (cameD z0 z0 0 5) 0 14) 0) (by repeat first | with_reducible exact .nil _ | with_reducible exact .here _ _ | with_reducible apply Take.cons | with_reducible apply Out.there) rfl ?_
  rintro _ _ ⟨rfl, rfl⟩
  simp only [List.cons_append, List.nil_append]
  refine XL_det (.yes 15 rfl rfl rfl) (D_pure (v := .bool true) rfl) rfl ?_
  refine XL_det .no (D_pure rfl) rfl ?_
  refine XL_det .no (D_pure rfl) rfl ?_
  refine XL_det (.yes 20 rfl rfl rfl) (D_pure rfl) rfl ?_
  refine XL_call (.yes 20 rfl rfl rfl) en_37 rfl (gfrom _ (cameF (cameF z0 0 5 10) 0 14 10) (cameD (cameF z0 0 5 10) (cameD z0 z0 0 5) 0 14) 0) (by repeat first | with_reducible exact .nil _ | with_reducible exact .here _ _ | with_reducible apply Take.cons | with_reducible apply Out.there) rfl ?_
  rintro _ _ ⟨rfl, rfl⟩
  simp only [List.cons_append, List.nil_append]
  refine XL_det (.yes 20 rfl rfl rfl) (D_pure (v := .bool true) rfl) rfl ?_
  refine XL_det .no (D_pure rfl) rfl ?_
  refine XL_det .no (D_pure rfl) rfl ?_
  refine XL_then ?_
  refine X_ret ?_
  refine ret_ok (.nil _) (res_tmp rfl rfl) ?_
  exact ⟨_, ⟨rfl, rfl⟩, _, (by repeat first | with_reducible exact .nil _ | with_reducible exact .here _ _ | with_reducible apply Take.cons | with_reducible apply Out.there)⟩

theorem guardApart (ticks : Arr Int) (hr : Rd K ticks.ad (ticks.l.flatMap encI)) (t p : Int) : Ctr Try.prog B 5 [.int .i64 t, .int .i64 p, .slice ticks.oad ticks.l.length ticks.c] [K] (fun v S => v = .bool true ∧ S = [K]) := by
  refine Ctr_of_X (N := 82) Try.func5 rfl (by simp) rfl ?_
  intro w0 D0
  refine X_seq ?_
  refine X_region ?_
  refine XL_det .no (D_pure rfl) rfl ?_
  refine XL_then ?_
  refine X_seq ?_
  refine X_seq ?_
  refine X_region ?_
  refine XL_det .no (D_pure rfl) rfl ?_
  refine XL_det .no (D_len rfl rfl slc_50) rfl ?_
  refine XL_det .no (D_pure rfl) rfl ?_
  refine XL_det .no (D_pure rfl) rfl ?_
  refine XL_split (t := 14) rfl (fun h1 => ?_) (fun h1 => ?_)
  · try simp only [decide_eq_true_eq, decide_eq_false_iff_not, Bool.not_eq_true', Bool.not_eq_false', beq_iff_eq, bne_iff_ne, beq_eq_false_iff_ne, bne_eq_false_iff_eq, Int.not_lt, Int.not_le, gt_iff_lt, ge_iff_le, ne_eq] at h1
    refine XL_skip 14 rfl rfl rfl rfl rfl ?_
    refine XL_skip 14 rfl rfl rfl rfl rfl ?_
    refine XL_det .no (D_pure rfl) rfl ?_
    refine XL_det .no (D_pure rfl) rfl ?_
    refine XL_skip 18 rfl rfl rfl rfl rfl ?_
    refine XL_skip 18 rfl rfl rfl rfl rfl ?_
    refine XL_det .no (D_pure rfl) rfl ?_
    refine XL_det .no (D_pure rfl) rfl ?_
    refine XL_skip 22 rfl rfl rfl rfl rfl ?_
    refine XL_skip 22 rfl rfl rfl rfl rfl ?_
    refine XL_det .no (D_pure rfl) rfl ?_
    refine XL_det .no (D_pure rfl) rfl ?_
    refine XL_skip 26 rfl rfl rfl rfl rfl ?_
    refine XL_skip 26 rfl rfl rfl rfl rfl ?_
    refine XL_det .no (D_pure rfl) rfl ?_
    refine XL_then ?_
    refine X_cond_t rfl rfl ?_
    refine X_seq ?_
    refine X_region ?_
    refine XL_det .no (D_pure rfl) rfl ?_
    refine XL_then ?_
    refine X_ret ?_
    refine thenX_ret ?_
    refine ret_ok (.nil _) (res_tmp rfl rfl) ?_
    exact ⟨_, ⟨rfl, rfl⟩, _, (by repeat first | with_reducible exact .nil _ | with_reducible exact .here _ _ | with_reducible apply Take.cons | with_reducible apply Out.there)⟩
  · try simp only [decide_eq_true_eq, decide_eq_false_iff_not, Bool.not_eq_true', Bool.not_eq_false', beq_iff_eq, bne_iff_ne, beq_eq_false_iff_ne, bne_eq_false_iff_eq, Int.not_lt, Int.not_le, gt_iff_lt, ge_iff_le, ne_eq] at h1
    refine XL_det (.yes 14 rfl rfl rfl) (D_pure rfl) rfl ?_
    refine XL_det (.yes 14 rfl rfl rfl) (D_pure rfl) rfl ?_
    refine XL_det .no (D_pure rfl) rfl ?_
    refine XL_det .no (D_pure rfl) rfl ?_
    refine XL_split (t := 18) rfl (fun h2 => ?_) (fun h2 => ?_)
    · try simp only [decide_eq_true_eq, decide_eq_false_iff_not, Bool.not_eq_true', Bool.not_eq_false', beq_iff_eq, bne_iff_ne, beq_eq_false_iff_ne, bne_eq_false_iff_eq, Int.not_lt, Int.not_le, gt_iff_lt, ge_iff_le, ne_eq] at h2
      refine XL_skip 18 rfl rfl rfl rfl rfl ?_
      refine XL_skip 18 rfl rfl rfl rfl rfl ?_
      refine XL_det .no (D_pure rfl) rfl ?_
      refine XL_det .no (D_pure rfl) rfl ?_
      refine XL_skip 22 rfl rfl rfl rfl rfl ?_
      refine XL_skip 22 rfl rfl rfl rfl rfl ?_
      refine XL_det .no (D_pure rfl) rfl ?_
      refine XL_det .no (D_pure rfl) rfl ?_
      refine XL_skip 26 rfl rfl rfl rfl rfl ?_
      refine XL_skip 26 rfl rfl rfl rfl rfl ?_
      refine XL_det .no (D_pure rfl) rfl ?_
      refine XL_then ?_
      refine X_cond_t rfl rfl ?_
      refine X_seq ?_
      refine X_region ?_
      refine XL_det .no (D_pure rfl) rfl ?_
      refine XL_then ?_
      refine X_ret ?_
      refine thenX_ret ?_
      refine ret_ok (.nil _) (res_tmp rfl rfl) ?_
      exact ⟨_, ⟨rfl, rfl⟩, _, (by repeat first | with_reducible exact .nil _ | with_reducible exact .here _ _ | with_reducible apply Take.cons | with_reducible apply Out.there)⟩
    · try simp only [decide_eq_true_eq, decide_eq_false_iff_not, Bool.not_eq_true', Bool.not_eq_false', beq_iff_eq, bne_iff_ne, beq_eq_false_iff_ne, bne_eq_false_iff_eq, Int.not_lt, Int.not_le, gt_iff_lt, ge_iff_le, ne_eq] at h2
      refine XL_det (.yes 18 rfl rfl rfl) (D_pure rfl) rfl ?_
      refine XL_det (.yes 18 rfl rfl rfl) (D_pure rfl) rfl ?_
      refine XL_det .no (D_pure rfl) rfl ?_
      refine XL_det .no (D_pure rfl) rfl ?_
      refine XL_split (t := 22) rfl (fun h3 => ?_) (fun h3 => ?_)
      · try simp only [decide_eq_true_eq, decide_eq_false_iff_not, Bool.not_eq_true', Bool.not_eq_false', beq_iff_eq, bne_iff_ne, beq_eq_false_iff_ne, bne_eq_false_iff_eq, Int.not_lt, Int.not_le, gt_iff_lt, ge_iff_le, ne_eq] at h3
        refine XL_skip 22 rfl rfl rfl rfl rfl ?_
        refine XL_skip 22 rfl rfl rfl rfl rfl ?_
        refine XL_det .no (D_pure rfl) rfl ?_
        refine XL_det .no (D_pure rfl) rfl ?_
        refine XL_skip 26 rfl rfl rfl rfl rfl ?_
        refine XL_skip 26 rfl rfl rfl rfl rfl ?_
        refine XL_det .no (D_pure rfl) rfl ?_
        refine XL_then ?_
        refine X_cond_t rfl rfl ?_
        refine X_seq ?_
        refine X_region ?_
        refine XL_det .no (D_pure rfl) rfl ?_
        refine XL_then ?_
        refine X_ret ?_
        refine thenX_ret ?_
        refine ret_ok (.nil _) (res_tmp rfl rfl) ?_
        exact ⟨_, ⟨rfl, rfl⟩, _, (by repeat first | with_reducible exact .nil _ | with_reducible exact .here _ _ | with_reducible apply Take.cons | with_reducible apply Out.there)⟩
      · try simp only [decide_eq_true_eq, decide_eq_false_iff_not, Bool.not_eq_true', Bool.not_eq_false', beq_iff_eq, bne_iff_ne, beq_eq_false_iff_ne, bne_eq_false_iff_eq, Int.not_lt, Int.not_le, gt_iff_lt, ge_iff_le, ne_eq] at h3
        refine XL_det (.yes 22 rfl rfl rfl) (D_pure rfl) rfl ?_
        refine XL_det (.yes 22 rfl rfl rfl) (D_pure rfl) rfl ?_
        refine XL_det .no (D_pure rfl) rfl ?_
        refine XL_det .no (D_pure rfl) rfl ?_
        refine XL_split (t := 26) rfl (fun h4 => ?_) (fun h4 => ?_)
        · try simp only [decide_eq_true_eq, decide_eq_false_iff_not, Bool.not_eq_true', Bool.not_eq_false', beq_iff_eq, bne_iff_ne, beq_eq_false_iff_ne, bne_eq_false_iff_eq, Int.not_lt, Int.not_le, gt_iff_lt, ge_iff_le, ne_eq] at h4
          refine XL_skip 26 rfl rfl rfl rfl rfl ?_
          refine XL_skip 26 rfl rfl rfl rfl rfl ?_
          refine XL_det .no (D_pure rfl) rfl ?_
          refine XL_then ?_
          refine X_cond_t rfl rfl ?_
          refine X_seq ?_
          refine X_region ?_
          refine XL_det .no (D_pure rfl) rfl ?_
          refine XL_then ?_
          refine X_ret ?_
          refine thenX_ret ?_
          refine ret_ok (.nil _) (res_tmp rfl rfl) ?_
          exact ⟨_, ⟨rfl, rfl⟩, _, (by repeat first | with_reducible exact .nil _ | with_reducible exact .here _ _ | with_reducible apply Take.cons | with_reducible apply Out.there)⟩
        · try simp only [decide_eq_true_eq, decide_eq_false_iff_not, Bool.not_eq_true', Bool.not_eq_false', beq_iff_eq, bne_iff_ne, beq_eq_false_iff_ne, bne_eq_false_iff_eq, Int.not_lt, Int.not_le, gt_iff_lt, ge_iff_le, ne_eq] at h4
          refine XL_det (.yes 26 rfl rfl rfl) (D_pure rfl) rfl ?_
          refine XL_det (.yes 26 rfl rfl rfl) (D_pure rfl) rfl ?_
          refine XL_det .no (D_pure rfl) rfl ?_
          refine XL_then ?_
          refine X_cond rfl (fun h5 => ?_) (fun h5 => ?_)
          · try simp only [decide_eq_true_eq, decide_eq_false_iff_not, Bool.not_eq_true', Bool.not_eq_false', beq_iff_eq, bne_iff_ne, beq_eq_false_iff_ne, bne_eq_false_iff_eq, Int.not_lt, Int.not_le, gt_iff_lt, ge_iff_le, ne_eq] at h5
            refine X_seq ?_
            refine X_region ?_
            refine XL_det .no (D_pure rfl) rfl ?_
            refine XL_then ?_
            refine X_ret ?_
            refine thenX_ret ?_
            refine ret_ok (.nil _) (res_tmp rfl rfl) ?_
            exact ⟨_, ⟨rfl, rfl⟩, _, (by repeat first | with_reducible exact .nil _ | with_reducible exact .here _ _ | with_reducible apply Take.cons | with_reducible apply Out.there)⟩
          · try simp only [decide_eq_true_eq, decide_eq_false_iff_not, Bool.not_eq_true', Bool.not_eq_false', beq_iff_eq, bne_iff_ne, beq_eq_false_iff_ne, bne_eq_false_iff_eq, Int.not_lt, Int.not_le, gt_iff_lt, ge_iff_le, ne_eq] at h5
            obtain ⟨tj, rfl⟩ := Int.eq_ofNat_of_zero_le (a := t) (by omega)
            refine X_skip ?_
            refine thenX_normal ?_
            refine X_seq ?_
            refine X_region ?_
            refine XL_det .no (D_zero zero_53 zk_53) rfl ?_
            refine XL_box (cs := gc z0 z0) .no rfl rfl rfl (fun b1 => ?_)
            refine XL_det .no (D_pure rfl) rfl ?_
            refine XL_then ?_
            refine X_seq ?_
            refine X_region ?_
            refine XL_det .no (D_pure rfl) rfl ?_
            refine XL_det .no (D_pure rfl) rfl ?_
            refine XL_then ?_
            refine X_seq ?_
            refine X_seq ?_
            refine X_region ?_
            refine XL_det .no (D_pure rfl) rfl ?_
            refine XL_then ?_
            refine X_block ?_
            refine X_loop (α := Nat × (Nat → Int) × (Nat → Int) × Int × Bool) (fun ⟨i, f, d, last, so⟩ => i ≤ ticks.l.length ∧ dOk d ∧ so = decide (0 < i) ∧ f tj = (if i = 0 then 0 else last + p) ∧ 0 ≤ last ∧ last ≤ 1099511627776) (fun ⟨i, f, d, last, so⟩ => [(10, .int .i64 (i : Int)), (8, .int .i64 last), (9, .bool so), (7, .pointer (some ⟨b1, 0, none⟩)), (0, .int .i64 (tj : Int)), (1, .int .i64 p), (2, .slice ticks.oad ticks.l.length ticks.c)]) (fun ⟨i, f, d, last, so⟩ => [blk b1 (gc f d) 53, K]) (fun ⟨i, f, d, last, so⟩ => ticks.l.length - i) (0, z0, z0, 0, false) ?_ (by refine ⟨?_, ?_, ?_, ?_, ?_, ?_, ?_, trivial⟩ <;> rfl) (by repeat first | with_reducible exact .nil _ | with_reducible exact .here _ _ | with_reducible apply Take.cons | with_reducible apply Out.there) ?_
            · exact ⟨Nat.zero_le _, z0_ok, rfl, rfl, by decide, by decide⟩
            · rintro ⟨i, f, d, last, so⟩ ⟨hi, hd, hs, hf, hl0, hl1⟩
              dsimp only
              refine X_seq ?_
              refine X_seq ?_
              refine X_region ?_
              refine XL_det .no (D_pure rfl) rfl ?_
              refine XL_det .no (D_pure rfl) rfl ?_
              refine XL_det .no (D_len rfl rfl slc_50) rfl ?_
              refine XL_det .no (D_pure rfl) rfl ?_
              refine XL_then ?_
              refine X_cond rfl (fun h6 => ?_) (fun h6 => ?_)
              · try simp only [decide_eq_true_eq, decide_eq_false_iff_not, Bool.not_eq_true', Bool.not_eq_false', beq_iff_eq, bne_iff_ne, beq_eq_false_iff_ne, bne_eq_false_iff_eq, Int.not_lt, Int.not_le, gt_iff_lt, ge_iff_le, ne_eq] at h6
                obtain ⟨a, hget⟩ : ∃ a, ticks.l[i]? = some a := ⟨_, List.getElem?_eq_getElem (by omega)⟩
                refine X_skip ?_
                refine thenX_normal ?_
                refine X_seq ?_
                refine X_block ?_
                refine X_seq ?_
                refine X_seq ?_
                refine X_region ?_
                refine XL_det .no (D_pure rfl) rfl ?_
                refine XL_det .no (D_pure rfl) rfl ?_
                refine XL_det .no (D_idxSo rfl rfl slc_50 (ticks).nil0 rfl (by omega) rfl) rfl ?_
                refine XL_det .no (D_ela (enc := encI) (sz := 1) (i := i) (k := 0) (fun _ => rfl) rfl (by repeat first | with_reducible exact .here _ _ | with_reducible apply Out.there) hr tk_3 hget rfl) rfl ?_
                refine XL_det .no (D_pure rfl) rfl ?_
                refine XL_det .no (D_pure rfl) rfl ?_
                refine XL_split (t := 43) rfl (fun h7 => ?_) (fun h7 => ?_)
                · try simp only [decide_eq_true_eq, decide_eq_false_iff_not, Bool.not_eq_true', Bool.not_eq_false', beq_iff_eq, bne_iff_ne, beq_eq_false_iff_ne, bne_eq_false_iff_eq, Int.not_lt, Int.not_le, gt_iff_lt, ge_iff_le, ne_eq] at h7
                  refine XL_skip 43 rfl rfl rfl rfl rfl ?_
                  refine XL_skip 43 rfl rfl rfl rfl rfl ?_
                  refine XL_skip 43 rfl rfl rfl rfl rfl ?_
                  refine XL_skip 43 rfl rfl rfl rfl rfl ?_
                  refine XL_skip 43 rfl rfl rfl rfl rfl ?_
                  refine XL_det .no (D_pure rfl) rfl ?_
                  refine XL_then ?_
                  refine X_cond_t rfl rfl ?_
                  refine X_seq ?_
                  refine X_region ?_
                  refine XL_det .no (D_pure rfl) rfl ?_
                  refine XL_then ?_
                  refine X_ret ?_
                  refine thenX_ret ?_
                  refine inBlk_ret ?_
                  refine thenX_ret ?_
                  refine loopQ_ret ?_
                  refine inBlk_ret ?_
                  refine thenX_ret ?_
                  refine ret_ok (.nil _) (res_tmp rfl rfl) ?_
                  exact ⟨_, ⟨rfl, rfl⟩, _, (by repeat first | with_reducible exact .nil _ | with_reducible exact .here _ _ | with_reducible apply Take.cons | with_reducible apply Out.there)⟩
                · try simp only [decide_eq_true_eq, decide_eq_false_iff_not, Bool.not_eq_true', Bool.not_eq_false', beq_iff_eq, bne_iff_ne, beq_eq_false_iff_ne, bne_eq_false_iff_eq, Int.not_lt, Int.not_le, gt_iff_lt, ge_iff_le, ne_eq] at h7
                  refine XL_det (.yes 43 rfl rfl rfl) (D_pure rfl) rfl ?_
                  refine XL_det (.yes 43 rfl rfl rfl) (D_pure rfl) rfl ?_
                  refine XL_det (.yes 43 rfl rfl rfl) (D_idxSo rfl rfl slc_50 (ticks).nil0 rfl (by omega) rfl) rfl ?_
                  refine XL_det (.yes 43 rfl rfl rfl) (D_ela (enc := encI) (sz := 1) (i := i) (k := 0) (fun _ => rfl) rfl (by repeat first | with_reducible exact .here _ _ | with_reducible apply Out.there) hr tk_3 hget rfl) rfl ?_
                  refine XL_det (.yes 43 rfl rfl rfl) (D_pure rfl) rfl ?_
                  refine XL_det .no (D_pure rfl) rfl ?_
                  refine XL_then ?_
                  refine X_cond rfl (fun h8 => ?_) (fun h8 => ?_)
                  · try simp only [decide_eq_true_eq, decide_eq_false_iff_not, Bool.not_eq_true', Bool.not_eq_false', beq_iff_eq, bne_iff_ne, beq_eq_false_iff_ne, bne_eq_false_iff_eq, Int.not_lt, Int.not_le, gt_iff_lt, ge_iff_le, ne_eq] at h8
                    refine X_seq ?_
                    refine X_region ?_
                    refine XL_det .no (D_pure rfl) rfl ?_
                    refine XL_then ?_
                    refine X_ret ?_
                    refine thenX_ret ?_
                    refine inBlk_ret ?_
                    refine thenX_ret ?_
                    refine loopQ_ret ?_
                    refine inBlk_ret ?_
                    refine thenX_ret ?_
                    refine ret_ok (.nil _) (res_tmp rfl rfl) ?_
                    exact ⟨_, ⟨rfl, rfl⟩, _, (by repeat first | with_reducible exact .nil _ | with_reducible exact .here _ _ | with_reducible apply Take.cons | with_reducible apply Out.there)⟩
                  · try simp only [decide_eq_true_eq, decide_eq_false_iff_not, Bool.not_eq_true', Bool.not_eq_false', beq_iff_eq, bne_iff_ne, beq_eq_false_iff_ne, bne_eq_false_iff_eq, Int.not_lt, Int.not_le, gt_iff_lt, ge_iff_le, ne_eq] at h8
                    refine X_skip ?_
                    refine thenX_normal ?_
                    refine X_seq ?_
                    refine X_seq ?_
                    refine X_region ?_
                    refine XL_det .no (D_pure rfl) rfl ?_
                    refine XL_det .no (D_pure rfl) rfl ?_
                    refine XL_det .no (D_pure rfl) rfl ?_
                    refine XL_det .no (D_pure rfl) rfl ?_
                    refine XL_det .no (D_idxSo rfl rfl slc_50 (ticks).nil0 rfl (by omega) rfl) rfl ?_
                    refine XL_det .no (D_ela (enc := encI) (sz := 1) (i := i) (k := 0) (fun _ => rfl) rfl (by repeat first | with_reducible exact .here _ _ | with_reducible apply Out.there) hr tk_3 hget rfl) rfl ?_
                    refine XL_det .no (D_pure rfl) rfl ?_
                    refine XL_call .no en_18 rfl (gcame _ f d tj a p (by omega) (by omega) hd.lo) (by repeat first | with_reducible exact .nil _ | with_reducible exact .here _ _ | with_reducible apply Take.cons | with_reducible apply Out.there) rfl ?_
                    rintro _ _ ⟨rfl, rfl⟩
                    simp only [List.cons_append, List.nil_append]
                    refine XL_det .no (D_pure rfl) rfl ?_
                    refine XL_then ?_
                    refine X_cond rfl (fun h9 => ?_) (fun h9 => ?_)
                    · try simp only [decide_eq_true_eq, decide_eq_false_iff_not, Bool.not_eq_true', Bool.not_eq_false', beq_iff_eq, bne_iff_ne, beq_eq_false_iff_ne, bne_eq_false_iff_eq, Int.not_lt, Int.not_le, gt_iff_lt, ge_iff_le, ne_eq] at h9
                      refine X_exit ?_
                      refine thenX_exit ?_
                      refine inBlk_here ?_
                      refine thenX_normal ?_
                      refine X_region ?_
                      refine XL_det .no (D_pure rfl) rfl ?_
                      refine XL_det .no (D_add rfl rfl (by omega) (by omega)) rfl ?_
                      refine XL_det .no (D_pure rfl) rfl ?_
                      refine XL_nil ?_
                      refine loopQ_next (i + 1, cameF f tj a p, cameD f d tj a, last, so) ?_ ?_ ?_ ?_
                      · dsimp only; have hc := cameV_lt (by omega) h9; have hi0 : i ≠ 0 := (by rintro rfl; simp at hf; omega); refine ⟨by omega, cameD_ok hd, by rw [hs]; simp; omega, by rw [cameF_f h9, hf, if_neg hi0, if_neg (by omega)], by omega, by omega⟩
                      · dsimp only; omega
                      · refine ⟨?_, ?_, ?_, ?_, ?_, ?_, ?_, trivial⟩ <;> rfl
                      · dsimp only; exact ⟨_, (by repeat first | with_reducible exact .nil _ | with_reducible exact .here _ _ | with_reducible apply Take.cons | with_reducible apply Out.there)⟩
                    · try simp only [decide_eq_true_eq, decide_eq_false_iff_not, Bool.not_eq_true', Bool.not_eq_false', beq_iff_eq, bne_iff_ne, beq_eq_false_iff_ne, bne_eq_false_iff_eq, Int.not_lt, Int.not_le, gt_iff_lt, ge_iff_le, ne_eq] at h9
                      refine X_skip ?_
                      refine thenX_normal ?_
                      refine X_seq ?_
                      refine X_seq ?_
                      refine X_region ?_
                      refine XL_det .no (D_pure rfl) rfl ?_
                      refine XL_det .no (D_pure rfl) rfl ?_
                      refine XL_split (t := 60) rfl (fun h10 => ?_) (fun h10 => ?_)
                      · try simp only [decide_eq_true_eq, decide_eq_false_iff_not, Bool.not_eq_true', Bool.not_eq_false', beq_iff_eq, bne_iff_ne, beq_eq_false_iff_ne, bne_eq_false_iff_eq, Int.not_lt, Int.not_le, gt_iff_lt, ge_iff_le, ne_eq] at h10
                        refine XL_det (.yes 60 rfl rfl rfl) (D_pure rfl) rfl ?_
                        refine XL_det (.yes 60 rfl rfl rfl) (D_pure rfl) rfl ?_
                        refine XL_det (.yes 60 rfl rfl rfl) (D_idxSo rfl rfl slc_50 (ticks).nil0 rfl (by omega) rfl) rfl ?_
                        refine XL_det (.yes 60 rfl rfl rfl) (D_ela (enc := encI) (sz := 1) (i := i) (k := 0) (fun _ => rfl) rfl (by repeat first | with_reducible exact .here _ _ | with_reducible apply Out.there) hr tk_3 hget rfl) rfl ?_
                        refine XL_det (.yes 60 rfl rfl rfl) (D_pure rfl) rfl ?_
                        refine XL_det (.yes 60 rfl rfl rfl) (D_sub rfl rfl (by omega) (by omega)) rfl ?_
                        refine XL_det (.yes 60 rfl rfl rfl) (D_pure rfl) rfl ?_
                        refine XL_det (.yes 60 rfl rfl rfl) (D_pure rfl) rfl ?_
                        refine XL_det .no (D_pure rfl) rfl ?_
                        refine XL_then ?_
                        refine X_cond rfl (fun h11 => ?_) (fun h11 => ?_)
                        · try simp only [decide_eq_true_eq, decide_eq_false_iff_not, Bool.not_eq_true', Bool.not_eq_false', beq_iff_eq, bne_iff_ne, beq_eq_false_iff_ne, bne_eq_false_iff_eq, Int.not_lt, Int.not_le, gt_iff_lt, ge_iff_le, ne_eq] at h11
                          exfalso; have hc := cameV_le h9; rw [h10] at hs; have hi0 : 0 < i := (by simpa using hs.symm); rw [if_neg (by omega)] at hf; omega
                        · try simp only [decide_eq_true_eq, decide_eq_false_iff_not, Bool.not_eq_true', Bool.not_eq_false', beq_iff_eq, bne_iff_ne, beq_eq_false_iff_ne, bne_eq_false_iff_eq, Int.not_lt, Int.not_le, gt_iff_lt, ge_iff_le, ne_eq] at h11
                          refine X_skip ?_
                          refine thenX_normal ?_
                          refine X_region ?_
                          refine XL_det .no (D_pure rfl) rfl ?_
                          refine XL_det .no (D_pure rfl) rfl ?_
                          refine XL_det .no (D_idxSo rfl rfl slc_50 (ticks).nil0 rfl (by omega) rfl) rfl ?_
                          refine XL_det .no (D_ela (enc := encI) (sz := 1) (i := i) (k := 0) (fun _ => rfl) rfl (by repeat first | with_reducible exact .here _ _ | with_reducible apply Out.there) hr tk_3 hget rfl) rfl ?_
                          refine XL_det .no (D_pure rfl) rfl ?_
                          refine XL_det .no (D_pure rfl) rfl ?_
                          refine XL_nil ?_
                          refine inBlk_normal ?_
                          refine thenX_normal ?_
                          refine X_region ?_
                          refine XL_det .no (D_pure rfl) rfl ?_
                          refine XL_det .no (D_add rfl rfl (by omega) (by omega)) rfl ?_
                          refine XL_det .no (D_pure rfl) rfl ?_
                          refine XL_nil ?_
                          refine loopQ_next (i + 1, cameF f tj a p, cameD f d tj a, a, true) ?_ ?_ ?_ ?_
                          · dsimp only; refine ⟨by omega, cameD_ok hd, by simp, ?_, by omega, by omega⟩; rw [cameF_t h9, Int.toNat_natCast, upd_same, if_neg (by omega)]; omega
                          · dsimp only; omega
                          · refine ⟨?_, ?_, ?_, ?_, ?_, ?_, ?_, trivial⟩ <;> rfl
                          · dsimp only; exact ⟨_, (by repeat first | with_reducible exact .nil _ | with_reducible exact .here _ _ | with_reducible apply Take.cons | with_reducible apply Out.there)⟩
                      · try simp only [decide_eq_true_eq, decide_eq_false_iff_not, Bool.not_eq_true', Bool.not_eq_false', beq_iff_eq, bne_iff_ne, beq_eq_false_iff_ne, bne_eq_false_iff_eq, Int.not_lt, Int.not_le, gt_iff_lt, ge_iff_le, ne_eq] at h10
                        refine XL_skip 60 rfl rfl rfl rfl rfl ?_
                        refine XL_skip 60 rfl rfl rfl rfl rfl ?_
                        refine XL_skip 60 rfl rfl rfl rfl rfl ?_
                        refine XL_skip 60 rfl rfl rfl rfl rfl ?_
                        refine XL_skip 60 rfl rfl rfl rfl rfl ?_
                        refine XL_skip 60 rfl rfl rfl rfl rfl ?_
                        refine XL_skip 60 rfl rfl rfl rfl rfl ?_
                        refine XL_skip 60 rfl rfl rfl rfl rfl ?_
                        refine XL_det .no (D_pure rfl) rfl ?_
                        refine XL_then ?_
                        refine X_cond_f rfl rfl ?_
                        refine X_skip ?_
                        refine thenX_normal ?_
                        refine X_region ?_
                        refine XL_det .no (D_pure rfl) rfl ?_
                        refine XL_det .no (D_pure rfl) rfl ?_
                        refine XL_det .no (D_idxSo rfl rfl slc_50 (ticks).nil0 rfl (by omega) rfl) rfl ?_
                        refine XL_det .no (D_ela (enc := encI) (sz := 1) (i := i) (k := 0) (fun _ => rfl) rfl (by repeat first | with_reducible exact .here _ _ | with_reducible apply Out.there) hr tk_3 hget rfl) rfl ?_
                        refine XL_det .no (D_pure rfl) rfl ?_
                        refine XL_det .no (D_pure rfl) rfl ?_
                        refine XL_nil ?_
                        refine inBlk_normal ?_
                        refine thenX_normal ?_
                        refine X_region ?_
                        refine XL_det .no (D_pure rfl) rfl ?_
                        refine XL_det .no (D_add rfl rfl (by omega) (by omega)) rfl ?_
                        refine XL_det .no (D_pure rfl) rfl ?_
                        refine XL_nil ?_
                        refine loopQ_next (i + 1, cameF f tj a p, cameD f d tj a, a, true) ?_ ?_ ?_ ?_
                        · dsimp only; refine ⟨by omega, cameD_ok hd, by simp, ?_, by omega, by omega⟩; rw [cameF_t h9, Int.toNat_natCast, upd_same, if_neg (by omega)]; omega
                        · dsimp only; omega
                        · refine ⟨?_, ?_, ?_, ?_, ?_, ?_, ?_, trivial⟩ <;> rfl
                        · dsimp only; exact ⟨_, (by repeat first | with_reducible exact .nil _ | with_reducible exact .here _ _ | with_reducible apply Take.cons | with_reducible apply Out.there)⟩
              · try simp only [decide_eq_true_eq, decide_eq_false_iff_not, Bool.not_eq_true', Bool.not_eq_false', beq_iff_eq, bne_iff_ne, beq_eq_false_iff_ne, bne_eq_false_iff_eq, Int.not_lt, Int.not_le, gt_iff_lt, ge_iff_le, ne_eq] at h6
                refine X_exit ?_
                refine thenX_exit ?_
                refine loopQ_exit ?_
                refine inBlk_here ?_
                refine thenX_normal ?_
                refine X_seq ?_
                refine X_region ?_
                refine XL_det .no (D_pure rfl) rfl ?_
                refine XL_det .no (D_pure rfl) rfl ?_
                refine XL_det .no (D_len rfl rfl slc_50) rfl ?_
                refine XL_det .no (D_pure rfl) rfl ?_
                refine XL_det .no (D_eqb (b := true) rfl rfl ub_4 (by rw [hs]; simp; omega)) rfl ?_
                refine XL_det .no (D_pure rfl) rfl ?_
                refine XL_callv (.yes 79 rfl rfl rfl) en_19 rfl (alive24) rfl ?_
                refine XL_det .no (D_pure rfl) rfl ?_
                refine XL_det .no (D_pure rfl) rfl ?_
                refine XL_then ?_
                refine X_ret ?_
                refine ret_ok (.nil _) (res_tmp rfl rfl) ?_
                exact ⟨_, ⟨rfl, rfl⟩, _, (by repeat first | with_reducible exact .nil _ | with_reducible exact .here _ _ | with_reducible apply Take.cons | with_reducible apply Out.there)⟩

end Go.Proofs.Ytbejafkklbmaoaa
end

section
namespace Go.Proofs.Ytbejafkklbmaoaa
open Go Go.Sl Go.ChangeShapes Go.WideShapes Go.ChangeAt Go.RowKit
set_option linter.unusedVariables false
theorem own : ownKnob Try.prog.godebug = none := by kernel_rfl
theorem laidOut : laidOutB Try.prog = true := by kernel_rfl

theorem ui_int : Try.prog.underlying 3 = some (.int .i64) := by kernel_rfl
theorem sl_ints : slcOf Try.prog 50 = some (3, 1) := by kernel_rfl

/-- The walk, at the arguments as the row reads them. -/
theorem walkGuardApart (W : World) (args : Array Value) (h : ArgsOk Try.prog W Try.f5.params.toList args.toList) : Calls Try.prog 5 args W fun e w' => e = .returned (.bool true) ∧ Go.RowKit.Below W.heap.size W w' := by
  rw [show Try.f5.params.toList = [3, 3, 50] from by kernel_rfl] at h
  obtain ⟨args⟩ := args
  match args, h with
  | [v0, v1, v2], h =>
    obtain ⟨a0, a1, a2, _⟩ := h
    obtain ⟨t, rfl, _⟩ := arg_int ui_int a0
    obtain ⟨p, rfl, _⟩ := arg_int ui_int a1
    obtain ⟨ticks, rfl, _, hr⟩ := arg_arr (encA := encI) (ok := fun _ => True) sl_ints (by decide) a2 (fun n cs x hx => by obtain ⟨m, h, _⟩ := DataW.trod_int ui_int hx; exact ⟨m, h, trivial⟩)
    exact calls_of (old_self W) ((guardApart ticks hr t p).mono fun _ _ h => h.1)

set_option maxRecDepth 100000 in
theorem liftedGuardApart (os : Os) (started : os.Started) (H : Type) (enc : TypeId × Value → H) :
    ReturnsInHanded {} Try.checked os 5 .any (Rows.guardApartSpec.pre6 enc Try.prog Try.f5 Rows.guardApartRow.domain false) (Rows.guardApartSpec.post enc Try.prog Try.f5 false true false false) :=
  handed (C := Try.checked) (tb := 4) own started (by kernel_rfl) Try.func5 laidOut (by kernel_rfl) rfl
    (fun ds h => by
      have h : ds.length = 3 := h
      match ds, h with
      | [_, _, _], _ => exact ⟨rfl, rfl, rfl⟩) (by kernel_rfl) (by kernel_rfl)
    (ChangeSpec.witness6 (enc := enc) (C := Try.checked) false ⟨#[], #[.int .i64 0, .int .i64 0, .slice none 0 0], []⟩ 8 (by kernel_rfl) (by kernel_rfl) (by kernel_rfl) (by kernel_rfl))
    (fun W args h => walkGuardApart W args h)

theorem overGuardApart : Rows.guardApartRow.holds Try.pinned (OpenSpec.ofChange Rows.guardApartSpec) :=
  OpenClaim.holds_of_wide 5 Try.f5 rfl rfl rfl rfl rfl rfl rfl ⟨rfl, rfl, rfl, rfl, rfl⟩ rfl rfl rfl rfl rfl (by kernel_rfl) Try.func5 (by kernel_rfl)
    (of_decide_eq_true (by kernel_rfl)) (by unfold Func.isWrapper; first | (rw [if_pos (by decide +kernel)]; kernel_rfl) | (rw [if_neg (by decide +kernel)]; exact ⟨rfl, rfl⟩))
    (fun os started H enc _ => liftedGuardApart os started H enc)

/-- The statement. -/
theorem provedGuardApart : Rows.GuardApartSaid := overGuardApart

#print axioms provedGuardApart
end Go.Proofs.Ytbejafkklbmaoaa
end
