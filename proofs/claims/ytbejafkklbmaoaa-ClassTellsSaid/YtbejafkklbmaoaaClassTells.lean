/- The given statement ClassTellsSaid is proved: for any two sets of tasks the program tells rightly which tasks are in the first alone, in the second alone and in both, and of each task which of these it is. Conditions: none. -/
import Derived.Test.YtbejafkklbmaoaaSl
import Derived.KernelRfl
import Derived.Test.YtbejafkklbmaoaaProg
import Derived.Test.YtbejafkklbmaoaaRows
section
namespace Go.Proofs.Ytbejafkklbmaoaa
open Go Go.Sl
set_option linter.unusedVariables false
set_option linter.unusedSimpArgs false
variable {B : Nat} {K : Asrt B}
theorem bld_31 : bldOf Try.prog 31 = some ([.int .u32 0, .int .u32 0, .int .u32 0], [(0, 1), (1, 1), (2, 1)]) := by kernel_rfl
theorem cvt_3_74 : cvtK Try.prog 3 74 = some .u64 := by kernel_rfl
theorem en_10 : Go.Proofs.Enters Try.prog 10 := Go.Proofs.enters_of Try.func10 (by kernel_rfl) rfl
theorem en_11 : Go.Proofs.Enters Try.prog 11 := Go.Proofs.enters_of Try.func11 (by kernel_rfl) rfl
theorem en_12 : Go.Proofs.Enters Try.prog 12 := Go.Proofs.enters_of Try.func12 (by kernel_rfl) rfl
theorem en_13 : Go.Proofs.Enters Try.prog 13 := Go.Proofs.enters_of Try.func13 (by kernel_rfl) rfl
theorem en_14 : Go.Proofs.Enters Try.prog 14 := Go.Proofs.enters_of Try.func14 (by kernel_rfl) rfl
theorem en_15 : Go.Proofs.Enters Try.prog 15 := Go.Proofs.enters_of Try.func15 (by kernel_rfl) rfl
theorem en_16 : Go.Proofs.Enters Try.prog 16 := Go.Proofs.enters_of Try.func16 (by kernel_rfl) rfl
theorem en_17 : Go.Proofs.Enters Try.prog 17 := Go.Proofs.enters_of Try.func17 (by kernel_rfl) rfl
theorem en_33 : Go.Proofs.Enters Try.prog 33 := Go.Proofs.enters_of Try.func33 (by kernel_rfl) rfl
theorem en_40 : Go.Proofs.Enters Try.prog 40 := Go.Proofs.enters_of Try.func40 (by kernel_rfl) rfl
theorem eqg_31 : Try.prog.eqGuardType Try.prog.depth 31 = false := by kernel_rfl
theorem eqk_31 : eqKinds Try.prog 12 31 = some [some .u32, some .u32, some .u32] := by kernel_rfl
theorem fld_31_0 : fldOff Try.prog 31 0 = some 0 := by kernel_rfl
theorem fld_31_1 : fldOff Try.prog 31 1 = some 1 := by kernel_rfl
theorem fld_31_2 : fldOff Try.prog 31 2 = some 2 := by kernel_rfl
theorem tk_29 : tyK Try.prog 29 = some (false, 1) := by kernel_rfl
theorem tk_31 : tyK Try.prog 31 = some (true, 3) := by kernel_rfl
theorem ub_4 : Try.prog.underlying 4 = some .bool := by kernel_rfl
theorem zero_31 : zeroOf Try.prog 31 = some [.int .u32 0, .int .u32 0, .int .u32 0] := by kernel_rfl

def hasB (s : BitVec 32) (i : Int) : Bool := if 0 ≤ i ∧ i < 32 then s.getLsbD i.toNat else false
theorem hasB_out (s : BitVec 32) (i : Int) (h : ¬ (0 ≤ i ∧ i < 32)) : hasB s i = false := by simp [hasB, h]
theorem hasB_nat (s : BitVec 32) (i : Nat) : hasB s i = s.getLsbD i := by
  by_cases h : i < 32
  · simp only [hasB]; rw [if_pos (by omega)]; rfl
  · rw [hasB_out _ _ (by omega), BitVec.getLsbD_of_ge _ _ (by omega)]
theorem hasB_in (s : BitVec 32) (i : Int) (h1 : 0 ≤ i) (h2 : i < 32) : hasB s i = ((((s >>> i.toNat) % 2#32).toNat : Int) == 1) := by
  have e : (((s >>> i.toNat) % 2#32).toNat : Int) = ((s.toNat / 2 ^ i.toNat % 2 : Nat) : Int) := by
    simp [BitVec.toNat_umod, BitVec.toNat_ushiftRight, Nat.shiftRight_eq_div_pow]
  rw [e, hasB, if_pos ⟨h1, h2⟩, BitVec.getLsbD, Nat.testBit_eq_decide_div_mod_eq, Bool.eq_iff_iff]
  simp only [decide_eq_true_eq, beq_iff_eq]
  generalize s.toNat / 2 ^ i.toNat = q
  omega
theorem hasB_and (s t : BitVec 32) (i : Int) : hasB (s &&& t) i = (hasB s i && hasB t i) := by
  unfold hasB; split <;> simp
theorem hasB_or (s t : BitVec 32) (i : Int) : hasB (s ||| t) i = (hasB s i || hasB t i) := by
  unfold hasB; split <;> simp
theorem hasB_andnot (s t : BitVec 32) (i : Int) : hasB (s &&& ~~~t) i = (hasB s i && !hasB t i) := by
  unfold hasB; split
  · rename_i h; simp [show i.toNat < 32 by omega]
  · simp
theorem hasB_ext {s t : BitVec 32} (h : ∀ i : Nat, i < 32 → hasB s i = hasB t i) : s = t := by
  apply BitVec.eq_of_getLsbD_eq
  intro i hi
  rw [← hasB_nat, ← hasB_nat]; exact h i hi
def bitv (n : Int) : BitVec 32 := if n < 0 ∨ n > 31 then 0#32 else 1#32 <<< n.toNat
theorem bitv_in {n : Int} (h0 : 0 ≤ n) (h1 : n ≤ 31) : bitv n = 1#32 <<< n.toNat := by unfold bitv; rw [if_neg (by omega)]
theorem bitv_out {n : Int} (h : n < 0 ∨ n > 31) : bitv n = 0#32 := by unfold bitv; rw [if_pos h]
theorem hasB_bitv (n i : Int) : hasB (bitv n) i = decide (n = i ∧ 0 ≤ i ∧ i < 32) := by
  by_cases h : n < 0 ∨ n > 31
  · rw [bitv_out h]; simp [hasB]; omega
  · rw [bitv_in (by omega) (by omega)]
    by_cases hi : 0 ≤ i ∧ i < 32
    · obtain ⟨k, rfl⟩ := Int.eq_ofNat_of_zero_le hi.1
      obtain ⟨m, rfl⟩ := Int.eq_ofNat_of_zero_le (show 0 ≤ n by omega)
      rw [hasB_nat, Int.toNat_natCast]
      by_cases e : m = k
      · subst e; simp; omega
      · rw [BitVec.getLsbD_shiftLeft, BitVec.getLsbD_one, Bool.eq_iff_iff]
        simp only [Bool.and_eq_true, decide_eq_true_eq, Bool.not_eq_true', decide_eq_false_iff_not]
        omega
    · rw [hasB_out _ _ hi]; simp; omega
theorem bitv_ne (s : BitVec 32) (n : Int) : (((s &&& bitv n).toNat : Int) != 0) = hasB s n := by
  rw [Bool.eq_iff_iff]
  simp only [bne_iff_ne, ne_eq]
  constructor
  · intro h
    cases hb : hasB s n with
    | true => rfl
    | false =>
      exfalso; apply h
      have : s &&& bitv n = 0#32 := hasB_ext fun i hi => by
        rw [hasB_and, hasB_bitv]
        by_cases e : n = (i : Int)
        · subst e; rw [hb]; simp [hasB_nat]
        · simp [e, hasB_nat]
      rw [this]; rfl
  · intro hb h
    have h0 : s &&& bitv n = 0#32 := BitVec.eq_of_toNat_eq (by rw [show (0#32).toNat = 0 from rfl]; omega)
    have h1 : hasB (s &&& bitv n) n = true := by
      have hin : 0 ≤ n ∧ n < 32 := by
        by_cases hi : 0 ≤ n ∧ n < 32
        · exact hi
        · rw [hasB_out _ _ hi] at hb; cases hb
      rw [hasB_and, hb, hasB_bitv]; simp [hin]
    rw [h0] at h1; simp [hasB] at h1
theorem bt {m n : Int} (h : m = n) : some (Value.bool (m == n)) = some (.bool true) := by simp [h]

theorem has (s : BitVec 32) (i : Int) : Ctr Try.prog B 12 [.int .u32 s.toNat, .int .i64 i] [] (fun v S => v = .bool (hasB s i) ∧ S = []) := by
  refine Ctr_of_X (N := 19) Try.func12 rfl (by simp) rfl ?_
  intro w0 D0
  refine X_seq ?_
  refine X_region ?_
  refine XL_det .no (D_pure rfl) rfl ?_
  refine XL_then ?_
  refine X_seq ?_
  refine X_region ?_
  refine XL_det .no (D_pure rfl) rfl ?_
  refine XL_det .no (D_pure rfl) rfl ?_
  refine XL_det .no (D_pure rfl) rfl ?_
  refine XL_split (t := 7) rfl (fun h1 => ?_) (fun h1 => ?_)
  · try simp only [decide_eq_true_eq, decide_eq_false_iff_not, Bool.not_eq_true', Bool.not_eq_false', beq_iff_eq, bne_iff_ne, beq_eq_false_iff_ne, bne_eq_false_iff_eq, Int.not_lt, Int.not_le, gt_iff_lt, ge_iff_le, ne_eq] at h1
    refine XL_det (.yes 7 rfl rfl rfl) (D_pure rfl) rfl ?_
    refine XL_det (.yes 7 rfl rfl rfl) (D_pure rfl) rfl ?_
    refine XL_det .no (D_pure rfl) rfl ?_
    refine XL_det .no (D_pure rfl) rfl ?_
    refine XL_split (t := 11) rfl (fun h2 => ?_) (fun h2 => ?_)
    · try simp only [decide_eq_true_eq, decide_eq_false_iff_not, Bool.not_eq_true', Bool.not_eq_false', beq_iff_eq, bne_iff_ne, beq_eq_false_iff_ne, bne_eq_false_iff_eq, Int.not_lt, Int.not_le, gt_iff_lt, ge_iff_le, ne_eq] at h2
      refine XL_det (.yes 11 rfl rfl rfl) (D_pure rfl) rfl ?_
      refine XL_det (.yes 11 rfl rfl rfl) (D_pure rfl) rfl ?_
      refine XL_det (.yes 11 rfl rfl rfl) (D_cvt rfl cvt_3_74 (u64_in (by omega) (by omega))) rfl ?_
      refine XL_det (.yes 11 rfl rfl rfl) (D_bvshr rfl rfl rfl (by omega) (by omega)) rfl ?_
      refine XL_det (.yes 11 rfl rfl rfl) (D_bvrem (b := 2#32) rfl rfl rfl rfl (by decide)) rfl ?_
      refine XL_det (.yes 11 rfl rfl rfl) (D_pure rfl) rfl ?_
      refine XL_det .no (D_pure rfl) rfl ?_
      refine XL_det .no (D_pure rfl) rfl ?_
      refine XL_then ?_
      refine X_ret ?_
      refine ret_ok (.nil _) (res_tmp rfl rfl) ?_
      exact ⟨_, ⟨by rw [hasB_in s i h1 h2], rfl⟩, _, (by repeat first | with_reducible exact .nil _ | with_reducible exact .here _ _ | with_reducible apply Take.cons | with_reducible apply Out.there)⟩
    · try simp only [decide_eq_true_eq, decide_eq_false_iff_not, Bool.not_eq_true', Bool.not_eq_false', beq_iff_eq, bne_iff_ne, beq_eq_false_iff_ne, bne_eq_false_iff_eq, Int.not_lt, Int.not_le, gt_iff_lt, ge_iff_le, ne_eq] at h2
      refine XL_skip 11 rfl rfl rfl rfl rfl ?_
      refine XL_skip 11 rfl rfl rfl rfl rfl ?_
      refine XL_skip 11 rfl rfl rfl rfl rfl ?_
      refine XL_skip 11 rfl rfl rfl rfl rfl ?_
      refine XL_skip 11 rfl rfl rfl rfl rfl ?_
      refine XL_skip 11 rfl rfl rfl rfl rfl ?_
      refine XL_det .no (D_pure rfl) rfl ?_
      refine XL_det .no (D_pure rfl) rfl ?_
      refine XL_then ?_
      refine X_ret ?_
      refine ret_ok (.nil _) (res_tmp rfl rfl) ?_
      exact ⟨_, ⟨by rw [hasB_out s i (by omega)], rfl⟩, _, (by repeat first | with_reducible exact .nil _ | with_reducible exact .here _ _ | with_reducible apply Take.cons | with_reducible apply Out.there)⟩
  · try simp only [decide_eq_true_eq, decide_eq_false_iff_not, Bool.not_eq_true', Bool.not_eq_false', beq_iff_eq, bne_iff_ne, beq_eq_false_iff_ne, bne_eq_false_iff_eq, Int.not_lt, Int.not_le, gt_iff_lt, ge_iff_le, ne_eq] at h1
    refine XL_skip 7 rfl rfl rfl rfl rfl ?_
    refine XL_skip 7 rfl rfl rfl rfl rfl ?_
    refine XL_det .no (D_pure rfl) rfl ?_
    refine XL_det .no (D_pure rfl) rfl ?_
    refine XL_skip 11 rfl rfl rfl rfl rfl ?_
    refine XL_skip 11 rfl rfl rfl rfl rfl ?_
    refine XL_skip 11 rfl rfl rfl rfl rfl ?_
    refine XL_skip 11 rfl rfl rfl rfl rfl ?_
    refine XL_skip 11 rfl rfl rfl rfl rfl ?_
    refine XL_skip 11 rfl rfl rfl rfl rfl ?_
    refine XL_det .no (D_pure rfl) rfl ?_
    refine XL_det .no (D_pure rfl) rfl ?_
    refine XL_then ?_
    refine X_ret ?_
    refine ret_ok (.nil _) (res_tmp rfl rfl) ?_
    exact ⟨_, ⟨by rw [hasB_out s i (by omega)], rfl⟩, _, (by repeat first | with_reducible exact .nil _ | with_reducible exact .here _ _ | with_reducible apply Take.cons | with_reducible apply Out.there)⟩

theorem mbit (n : Int) : Ctr Try.prog B 40 [.int .i64 n] [] (fun v S => v = .int .u32 (bitv n).toNat ∧ S = []) := by
  refine Ctr_of_X (N := 11) Try.func40 rfl (by simp) rfl ?_
  intro w0 D0
  refine X_seq ?_
  refine X_region ?_
  refine XL_det .no (D_pure rfl) rfl ?_
  refine XL_then ?_
  refine X_seq ?_
  refine X_seq ?_
  refine X_region ?_
  refine XL_det .no (D_pure rfl) rfl ?_
  refine XL_det .no (D_pure rfl) rfl ?_
  refine XL_det .no (D_pure rfl) rfl ?_
  refine XL_split (t := 5) rfl (fun h1 => ?_) (fun h1 => ?_)
  · try simp only [decide_eq_true_eq, decide_eq_false_iff_not, Bool.not_eq_true', Bool.not_eq_false', beq_iff_eq, bne_iff_ne, beq_eq_false_iff_ne, bne_eq_false_iff_eq, Int.not_lt, Int.not_le, gt_iff_lt, ge_iff_le, ne_eq] at h1
    refine XL_skip 5 rfl rfl rfl rfl rfl ?_
    refine XL_skip 5 rfl rfl rfl rfl rfl ?_
    refine XL_det .no (D_pure rfl) rfl ?_
    refine XL_then ?_
    refine X_cond_t rfl rfl ?_
    refine X_seq ?_
    refine X_region ?_
    refine XL_det .no (D_pure rfl) rfl ?_
    refine XL_then ?_
    refine X_ret ?_
    refine thenX_ret ?_
    refine ret_ok (.nil _) (res_tmp rfl rfl) ?_
    exact ⟨_, ⟨by rw [bitv_out (by omega)]; rfl, rfl⟩, _, (by repeat first | with_reducible exact .nil _ | with_reducible exact .here _ _ | with_reducible apply Take.cons | with_reducible apply Out.there)⟩
  · try simp only [decide_eq_true_eq, decide_eq_false_iff_not, Bool.not_eq_true', Bool.not_eq_false', beq_iff_eq, bne_iff_ne, beq_eq_false_iff_ne, bne_eq_false_iff_eq, Int.not_lt, Int.not_le, gt_iff_lt, ge_iff_le, ne_eq] at h1
    refine XL_det (.yes 5 rfl rfl rfl) (D_pure rfl) rfl ?_
    refine XL_det (.yes 5 rfl rfl rfl) (D_pure rfl) rfl ?_
    refine XL_det .no (D_pure rfl) rfl ?_
    refine XL_then ?_
    refine X_cond rfl (fun h2 => ?_) (fun h2 => ?_)
    · try simp only [decide_eq_true_eq, decide_eq_false_iff_not, Bool.not_eq_true', Bool.not_eq_false', beq_iff_eq, bne_iff_ne, beq_eq_false_iff_ne, bne_eq_false_iff_eq, Int.not_lt, Int.not_le, gt_iff_lt, ge_iff_le, ne_eq] at h2
      refine X_seq ?_
      refine X_region ?_
      refine XL_det .no (D_pure rfl) rfl ?_
      refine XL_then ?_
      refine X_ret ?_
      refine thenX_ret ?_
      refine ret_ok (.nil _) (res_tmp rfl rfl) ?_
      exact ⟨_, ⟨by rw [bitv_out (by omega)]; rfl, rfl⟩, _, (by repeat first | with_reducible exact .nil _ | with_reducible exact .here _ _ | with_reducible apply Take.cons | with_reducible apply Out.there)⟩
    · try simp only [decide_eq_true_eq, decide_eq_false_iff_not, Bool.not_eq_true', Bool.not_eq_false', beq_iff_eq, bne_iff_ne, beq_eq_false_iff_ne, bne_eq_false_iff_eq, Int.not_lt, Int.not_le, gt_iff_lt, ge_iff_le, ne_eq] at h2
      refine X_skip ?_
      refine thenX_normal ?_
      refine X_seq ?_
      refine X_region ?_
      refine XL_det .no (D_pure rfl) rfl ?_
      refine XL_det .no (D_bvshl rfl rfl rfl (by omega) (by omega)) rfl ?_
      refine XL_det .no (D_pure rfl) rfl ?_
      refine XL_then ?_
      refine X_ret ?_
      refine ret_ok (.nil _) (res_tmp rfl rfl) ?_
      exact ⟨_, ⟨by rw [bitv_in (by omega) (by omega)]; rfl, rfl⟩, _, (by repeat first | with_reducible exact .nil _ | with_reducible exact .here _ _ | with_reducible apply Take.cons | with_reducible apply Out.there)⟩

theorem mHas (s : BitVec 32) (n : Int) : Ctr Try.prog B 33 [.int .u32 s.toNat, .int .i64 n] [] (fun v S => v = .bool (hasB s n) ∧ S = []) := by
  refine Ctr_of_X (N := 10) Try.func33 rfl (by simp) rfl ?_
  intro w0 D0
  refine X_seq ?_
  refine X_region ?_
  refine XL_det .no (D_pure rfl) rfl ?_
  refine XL_then ?_
  refine X_seq ?_
  refine X_region ?_
  refine XL_det .no (D_pure rfl) rfl ?_
  refine XL_det .no (D_pure rfl) rfl ?_
  refine XL_callv .no en_40 rfl (mbit _) rfl ?_
  refine XL_det .no (D_bv rfl rfl (bvo _) (bvo _) rfl) rfl ?_
  refine XL_det .no (D_pure rfl) rfl ?_
  refine XL_det .no (D_pure rfl) rfl ?_
  refine XL_then ?_
  refine X_ret ?_
  refine ret_ok (.nil _) (res_tmp rfl rfl) ?_
  exact ⟨_, ⟨by rw [← bitv_ne], rfl⟩, _, (by repeat first | with_reducible exact .nil _ | with_reducible exact .here _ _ | with_reducible apply Take.cons | with_reducible apply Out.there)⟩


abbrev clsV (c : BitVec 32 × BitVec 32 × BitVec 32) : Value := .agg #[.int .u32 c.1.toNat, .int .u32 c.2.1.toNat, .int .u32 c.2.2.toNat]
def ofC (a b : BitVec 32) : BitVec 32 × BitVec 32 × BitVec 32 := (a &&& ~~~b, b &&& ~~~a, a &&& b)
theorem cls_self {a b : BitVec 32 × BitVec 32 × BitVec 32} (h : a = b) : cellsEq [.int .u32 a.1.toNat, .int .u32 a.2.1.toNat, .int .u32 a.2.2.toNat] [.int .u32 b.1.toNat, .int .u32 b.2.1.toNat, .int .u32 b.2.2.toNat] = true := by
  subst h; simp [cellsEq, veq]
theorem hasB_c1 (a b : BitVec 32) (i : Int) : hasB (ofC a b).1 i = (hasB a i && !hasB b i) := hasB_andnot a b i
theorem hasB_c2 (a b : BitVec 32) (i : Int) : hasB (ofC a b).2.1 i = (hasB b i && !hasB a i) := hasB_andnot b a i
theorem hasB_c3 (a b : BitVec 32) (i : Int) : hasB (ofC a b).2.2 i = (hasB a i && hasB b i) := hasB_and a b i
def kindOf (c : BitVec 32 × BitVec 32 × BitVec 32) (t : Int) : Int := if hasB c.1 t then 1 else if hasB c.2.1 t then 2 else if hasB c.2.2 t then 3 else 0
theorem from_eq (a b : BitVec 32) : (ofC a b).1 ||| (ofC a b).2.2 = a := hasB_ext fun i hi => by simp only [hasB_or, hasB_c1, hasB_c2, hasB_c3]; cases hasB a i <;> cases hasB b i <;> rfl
theorem to_eq (a b : BitVec 32) : (ofC a b).2.1 ||| (ofC a b).2.2 = b := hasB_ext fun i hi => by simp only [hasB_or, hasB_c1, hasB_c2, hasB_c3]; cases hasB a i <;> cases hasB b i <;> rfl
theorem both_eq (a b : BitVec 32) : (ofC a b).1 ||| (ofC a b).2.1 ||| (ofC a b).2.2 = a ||| b := hasB_ext fun i hi => by simp only [hasB_or, hasB_c1, hasB_c2, hasB_c3]; cases hasB a i <;> cases hasB b i <;> rfl
theorem back_eq (a b : BitVec 32) : ((ofC a b).2.1, (ofC a b).1, (ofC a b).2.2) = ofC b a := by
  simp only [ofC, Prod.mk.injEq, true_and]; exact BitVec.and_comm _ _

theorem tof (a b : BitVec 32) : Ctr Try.prog B 11 [.int .u32 a.toNat, .int .u32 b.toNat] [] (fun v S => v = clsV (ofC a b) ∧ S = []) := by
  refine Ctr_of_X (N := 15) Try.func11 rfl (by simp) rfl ?_
  intro w0 D0
  refine X_seq ?_
  refine X_region ?_
  refine XL_alloc .no zero_31 rfl (fun b1 => ?_)
  refine XL_then ?_
  refine X_seq ?_
  refine X_region ?_
  refine XL_det .no (D_pure rfl) rfl ?_
  refine XL_det .no (D_pure rfl) rfl ?_
  refine XL_det .no (D_bv rfl rfl (bvo _) (bvo _) rfl) rfl ?_
  refine XL_det .no (D_pure rfl) rfl ?_
  refine XL_det .no (D_pure rfl) rfl ?_
  refine XL_det .no (D_bv rfl rfl (bvo _) (bvo _) rfl) rfl ?_
  refine XL_det .no (D_pure rfl) rfl ?_
  refine XL_det .no (D_pure rfl) rfl ?_
  refine XL_det .no (D_bv rfl rfl (bvo _) (bvo _) rfl) rfl ?_
  refine XL_det .no (D_build [_, _, _] rfl bld_31 (by rfl)) rfl ?_
  refine XL_efd .no (F_stw rfl rfl rfl (by repeat first | with_reducible exact .here _ _ | with_reducible apply Out.there) tk_31 rfl rfl) ?_
  refine XL_then ?_
  refine X_ret ?_
  refine ret_ok (.nil _) (res_cell rfl rfl (by repeat first | with_reducible exact .here _ _ | with_reducible apply Out.there) tk_31 (by rfl)) ?_
  exact ⟨_, ⟨rfl, rfl⟩, _, (by repeat first | with_reducible exact .nil _ | with_reducible exact .here _ _ | with_reducible apply Take.cons | with_reducible apply Out.there)⟩

theorem alive14  : Ctr Try.prog B 10 [] [] (fun v S => v = .bool true ∧ S = []) := by
  refine Ctr_of_X (N := 6) Try.func10 rfl (by simp) rfl ?_
  intro w0 D0
  refine X_seq ?_
  refine X_region ?_
  refine XL_det .no (D_pure rfl) rfl ?_
  refine XL_then ?_
  refine X_seq ?_
  refine X_region ?_
  refine XL_callv .no en_11 rfl (tof 3#32 6#32) rfl ?_
  refine XL_det .no (D_build [_, _, _] rfl bld_31 (by rfl)) rfl ?_
  refine XL_det .no (D_eqs (b := true) rfl rfl eqk_31 eqg_31 rfl rfl rfl rfl) rfl ?_
  refine XL_det .no (D_pure rfl) rfl ?_
  refine XL_det .no (D_pure rfl) rfl ?_
  refine XL_det .no (D_pure rfl) rfl ?_
  refine XL_then ?_
  refine X_ret ?_
  refine ret_ok (.nil _) (res_tmp rfl rfl) ?_
  exact ⟨_, ⟨rfl, rfl⟩, _, (by repeat first | with_reducible exact .nil _ | with_reducible exact .here _ _ | with_reducible apply Take.cons | with_reducible apply Out.there)⟩

theorem ckind (c : BitVec 32 × BitVec 32 × BitVec 32) (t : Int) : Ctr Try.prog B 13 [clsV c, .int .i64 t] [] (fun v S => v = .int .i64 (kindOf c t) ∧ S = []) := by
  refine Ctr_of_X (N := 20) Try.func13 rfl (by simp) rfl ?_
  intro w0 D0
  refine X_seq ?_
  refine X_region ?_
  refine XL_box .no rfl rfl rfl (fun b1 => ?_)
  refine XL_det .no (D_pure rfl) rfl ?_
  refine XL_then ?_
  refine X_seq ?_
  refine X_block ?_
  refine X_seq ?_
  refine X_region ?_
  refine XL_det .no (D_fld rfl fld_31_0 (o' := 0) rfl) rfl ?_
  refine XL_det .no (D_ldo rfl (by repeat first | with_reducible exact .here _ _ | with_reducible apply Out.there) tk_29 (by rfl)) rfl ?_
  refine XL_det .no (D_pure rfl) rfl ?_
  refine XL_callv .no en_33 rfl (mHas _ _) rfl ?_
  refine XL_det .no (D_pure rfl) rfl ?_
  refine XL_then ?_
  refine X_cond rfl (fun h1 => ?_) (fun h1 => ?_)
  · try simp only [decide_eq_true_eq, decide_eq_false_iff_not, Bool.not_eq_true', Bool.not_eq_false', beq_iff_eq, bne_iff_ne, beq_eq_false_iff_ne, bne_eq_false_iff_eq, Int.not_lt, Int.not_le, gt_iff_lt, ge_iff_le, ne_eq] at h1
    refine X_seq ?_
    refine X_region ?_
    refine XL_det .no (D_pure rfl) rfl ?_
    refine XL_then ?_
    refine X_ret ?_
    refine inBlk_ret ?_
    refine thenX_ret ?_
    refine ret_ok (.nil _) (res_tmp rfl rfl) ?_
    exact ⟨_, ⟨by simp [kindOf, h1], rfl⟩, _, (by repeat first | with_reducible exact .nil _ | with_reducible exact .here _ _ | with_reducible apply Take.cons | with_reducible apply Out.there)⟩
  · try simp only [decide_eq_true_eq, decide_eq_false_iff_not, Bool.not_eq_true', Bool.not_eq_false', beq_iff_eq, bne_iff_ne, beq_eq_false_iff_ne, bne_eq_false_iff_eq, Int.not_lt, Int.not_le, gt_iff_lt, ge_iff_le, ne_eq] at h1
    refine X_seq ?_
    refine X_region ?_
    refine XL_det .no (D_fld rfl fld_31_1 (o' := 1) rfl) rfl ?_
    refine XL_det .no (D_ldo rfl (by repeat first | with_reducible exact .here _ _ | with_reducible apply Out.there) tk_29 (by rfl)) rfl ?_
    refine XL_det .no (D_pure rfl) rfl ?_
    refine XL_callv .no en_33 rfl (mHas _ _) rfl ?_
    refine XL_det .no (D_pure rfl) rfl ?_
    refine XL_then ?_
    refine X_cond rfl (fun h2 => ?_) (fun h2 => ?_)
    · try simp only [decide_eq_true_eq, decide_eq_false_iff_not, Bool.not_eq_true', Bool.not_eq_false', beq_iff_eq, bne_iff_ne, beq_eq_false_iff_ne, bne_eq_false_iff_eq, Int.not_lt, Int.not_le, gt_iff_lt, ge_iff_le, ne_eq] at h2
      refine X_seq ?_
      refine X_region ?_
      refine XL_det .no (D_pure rfl) rfl ?_
      refine XL_then ?_
      refine X_ret ?_
      refine inBlk_ret ?_
      refine thenX_ret ?_
      refine ret_ok (.nil _) (res_tmp rfl rfl) ?_
      exact ⟨_, ⟨by simp [kindOf, h1, h2], rfl⟩, _, (by repeat first | with_reducible exact .nil _ | with_reducible exact .here _ _ | with_reducible apply Take.cons | with_reducible apply Out.there)⟩
    · try simp only [decide_eq_true_eq, decide_eq_false_iff_not, Bool.not_eq_true', Bool.not_eq_false', beq_iff_eq, bne_iff_ne, beq_eq_false_iff_ne, bne_eq_false_iff_eq, Int.not_lt, Int.not_le, gt_iff_lt, ge_iff_le, ne_eq] at h2
      refine X_seq ?_
      refine X_region ?_
      refine XL_det .no (D_fld rfl fld_31_2 (o' := 2) rfl) rfl ?_
      refine XL_det .no (D_ldo rfl (by repeat first | with_reducible exact .here _ _ | with_reducible apply Out.there) tk_29 (by rfl)) rfl ?_
      refine XL_det .no (D_pure rfl) rfl ?_
      refine XL_callv .no en_33 rfl (mHas _ _) rfl ?_
      refine XL_det .no (D_pure rfl) rfl ?_
      refine XL_then ?_
      refine X_cond rfl (fun h3 => ?_) (fun h3 => ?_)
      · try simp only [decide_eq_true_eq, decide_eq_false_iff_not, Bool.not_eq_true', Bool.not_eq_false', beq_iff_eq, bne_iff_ne, beq_eq_false_iff_ne, bne_eq_false_iff_eq, Int.not_lt, Int.not_le, gt_iff_lt, ge_iff_le, ne_eq] at h3
        refine X_seq ?_
        refine X_region ?_
        refine XL_det .no (D_pure rfl) rfl ?_
        refine XL_then ?_
        refine X_ret ?_
        refine inBlk_ret ?_
        refine thenX_ret ?_
        refine ret_ok (.nil _) (res_tmp rfl rfl) ?_
        exact ⟨_, ⟨by simp [kindOf, h1, h2, h3], rfl⟩, _, (by repeat first | with_reducible exact .nil _ | with_reducible exact .here _ _ | with_reducible apply Take.cons | with_reducible apply Out.there)⟩
      · try simp only [decide_eq_true_eq, decide_eq_false_iff_not, Bool.not_eq_true', Bool.not_eq_false', beq_iff_eq, bne_iff_ne, beq_eq_false_iff_ne, bne_eq_false_iff_eq, Int.not_lt, Int.not_le, gt_iff_lt, ge_iff_le, ne_eq] at h3
        refine X_skip ?_
        refine inBlk_normal ?_
        refine thenX_normal ?_
        refine X_seq ?_
        refine X_region ?_
        refine XL_det .no (D_pure rfl) rfl ?_
        refine XL_then ?_
        refine X_ret ?_
        refine ret_ok (.nil _) (res_tmp rfl rfl) ?_
        exact ⟨_, ⟨by simp [kindOf, h1, h2, h3], rfl⟩, _, (by repeat first | with_reducible exact .nil _ | with_reducible exact .here _ _ | with_reducible apply Take.cons | with_reducible apply Out.there)⟩

theorem cfrom (c : BitVec 32 × BitVec 32 × BitVec 32) : Ctr Try.prog B 14 [clsV c] [] (fun v S => v = .int .u32 (c.1 ||| c.2.2).toNat ∧ S = []) := by
  refine Ctr_of_X (N := 8) Try.func14 rfl (by simp) rfl ?_
  intro w0 D0
  refine X_seq ?_
  refine X_region ?_
  refine XL_box .no rfl rfl rfl (fun b1 => ?_)
  refine XL_det .no (D_pure rfl) rfl ?_
  refine XL_then ?_
  refine X_seq ?_
  refine X_region ?_
  refine XL_det .no (D_fld rfl fld_31_0 (o' := 0) rfl) rfl ?_
  refine XL_det .no (D_ldo rfl (by repeat first | with_reducible exact .here _ _ | with_reducible apply Out.there) tk_29 (by rfl)) rfl ?_
  refine XL_det .no (D_fld rfl fld_31_2 (o' := 2) rfl) rfl ?_
  refine XL_det .no (D_ldo rfl (by repeat first | with_reducible exact .here _ _ | with_reducible apply Out.there) tk_29 (by rfl)) rfl ?_
  refine XL_det .no (D_bv rfl rfl (bvo _) (bvo _) rfl) rfl ?_
  refine XL_det .no (D_pure rfl) rfl ?_
  refine XL_then ?_
  refine X_ret ?_
  refine ret_ok (.nil _) (res_tmp rfl rfl) ?_
  exact ⟨_, ⟨rfl, rfl⟩, _, (by repeat first | with_reducible exact .nil _ | with_reducible exact .here _ _ | with_reducible apply Take.cons | with_reducible apply Out.there)⟩

theorem cto (c : BitVec 32 × BitVec 32 × BitVec 32) : Ctr Try.prog B 15 [clsV c] [] (fun v S => v = .int .u32 (c.2.1 ||| c.2.2).toNat ∧ S = []) := by
  refine Ctr_of_X (N := 8) Try.func15 rfl (by simp) rfl ?_
  intro w0 D0
  refine X_seq ?_
  refine X_region ?_
  refine XL_box .no rfl rfl rfl (fun b1 => ?_)
  refine XL_det .no (D_pure rfl) rfl ?_
  refine XL_then ?_
  refine X_seq ?_
  refine X_region ?_
  refine XL_det .no (D_fld rfl fld_31_1 (o' := 1) rfl) rfl ?_
  refine XL_det .no (D_ldo rfl (by repeat first | with_reducible exact .here _ _ | with_reducible apply Out.there) tk_29 (by rfl)) rfl ?_
  refine XL_det .no (D_fld rfl fld_31_2 (o' := 2) rfl) rfl ?_
  refine XL_det .no (D_ldo rfl (by repeat first | with_reducible exact .here _ _ | with_reducible apply Out.there) tk_29 (by rfl)) rfl ?_
  refine XL_det .no (D_bv rfl rfl (bvo _) (bvo _) rfl) rfl ?_
  refine XL_det .no (D_pure rfl) rfl ?_
  refine XL_then ?_
  refine X_ret ?_
  refine ret_ok (.nil _) (res_tmp rfl rfl) ?_
  exact ⟨_, ⟨rfl, rfl⟩, _, (by repeat first | with_reducible exact .nil _ | with_reducible exact .here _ _ | with_reducible apply Take.cons | with_reducible apply Out.there)⟩

theorem cboth (c : BitVec 32 × BitVec 32 × BitVec 32) : Ctr Try.prog B 16 [clsV c] [] (fun v S => v = .int .u32 (c.1 ||| c.2.1 ||| c.2.2).toNat ∧ S = []) := by
  refine Ctr_of_X (N := 11) Try.func16 rfl (by simp) rfl ?_
  intro w0 D0
  refine X_seq ?_
  refine X_region ?_
  refine XL_box .no rfl rfl rfl (fun b1 => ?_)
  refine XL_det .no (D_pure rfl) rfl ?_
  refine XL_then ?_
  refine X_seq ?_
  refine X_region ?_
  refine XL_det .no (D_fld rfl fld_31_0 (o' := 0) rfl) rfl ?_
  refine XL_det .no (D_ldo rfl (by repeat first | with_reducible exact .here _ _ | with_reducible apply Out.there) tk_29 (by rfl)) rfl ?_
  refine XL_det .no (D_fld rfl fld_31_1 (o' := 1) rfl) rfl ?_
  refine XL_det .no (D_ldo rfl (by repeat first | with_reducible exact .here _ _ | with_reducible apply Out.there) tk_29 (by rfl)) rfl ?_
  refine XL_det .no (D_bv rfl rfl (bvo _) (bvo _) rfl) rfl ?_
  refine XL_det .no (D_fld rfl fld_31_2 (o' := 2) rfl) rfl ?_
  refine XL_det .no (D_ldo rfl (by repeat first | with_reducible exact .here _ _ | with_reducible apply Out.there) tk_29 (by rfl)) rfl ?_
  refine XL_det .no (D_bv rfl rfl (bvo _) (bvo _) rfl) rfl ?_
  refine XL_det .no (D_pure rfl) rfl ?_
  refine XL_then ?_
  refine X_ret ?_
  refine ret_ok (.nil _) (res_tmp rfl rfl) ?_
  exact ⟨_, ⟨rfl, rfl⟩, _, (by repeat first | with_reducible exact .nil _ | with_reducible exact .here _ _ | with_reducible apply Take.cons | with_reducible apply Out.there)⟩

theorem cback (c : BitVec 32 × BitVec 32 × BitVec 32) : Ctr Try.prog B 17 [clsV c] [] (fun v S => v = clsV (c.2.1, c.1, c.2.2) ∧ S = []) := by
  refine Ctr_of_X (N := 10) Try.func17 rfl (by simp) rfl ?_
  intro w0 D0
  refine X_seq ?_
  refine X_region ?_
  refine XL_box .no rfl rfl rfl (fun b1 => ?_)
  refine XL_alloc .no zero_31 rfl (fun b2 => ?_)
  refine XL_then ?_
  refine X_seq ?_
  refine X_region ?_
  refine XL_det .no (D_fld rfl fld_31_1 (o' := 1) rfl) rfl ?_
  refine XL_det .no (D_ldo rfl (by repeat first | with_reducible exact .here _ _ | with_reducible apply Out.there) tk_29 (by rfl)) rfl ?_
  refine XL_det .no (D_fld rfl fld_31_0 (o' := 0) rfl) rfl ?_
  refine XL_det .no (D_ldo rfl (by repeat first | with_reducible exact .here _ _ | with_reducible apply Out.there) tk_29 (by rfl)) rfl ?_
  refine XL_det .no (D_fld rfl fld_31_2 (o' := 2) rfl) rfl ?_
  refine XL_det .no (D_ldo rfl (by repeat first | with_reducible exact .here _ _ | with_reducible apply Out.there) tk_29 (by rfl)) rfl ?_
  refine XL_det .no (D_build [_, _, _] rfl bld_31 (by rfl)) rfl ?_
  refine XL_efd .no (F_stw rfl rfl rfl (by repeat first | with_reducible exact .here _ _ | with_reducible apply Out.there) tk_31 rfl rfl) ?_
  refine XL_then ?_
  refine X_ret ?_
  refine ret_ok (.nil _) (res_cell rfl rfl (by repeat first | with_reducible exact .here _ _ | with_reducible apply Out.there) tk_31 (by rfl)) ?_
  exact ⟨_, ⟨rfl, rfl⟩, _, (by repeat first | with_reducible exact .nil _ | with_reducible exact .here _ _ | with_reducible apply Take.cons | with_reducible apply Out.there)⟩

theorem classTells (a b : BitVec 32) (t : Int) : Ctr Try.prog B 4 [.int .u32 a.toNat, .int .u32 b.toNat, .int .i64 t] [] (fun v S => v = .bool true ∧ S = []) := by
  refine Ctr_of_X (N := 102) Try.func4 rfl (by simp) rfl ?_
  intro w0 D0
  refine X_seq ?_
  refine X_region ?_
  refine XL_det .no (D_pure rfl) rfl ?_
  refine XL_then ?_
  refine X_seq ?_
  refine X_region ?_
  refine XL_det .no (D_pure rfl) rfl ?_
  refine XL_det .no (D_pure rfl) rfl ?_
  refine XL_callv .no en_11 rfl (tof a b) rfl ?_
  refine XL_alloc .no zero_31 rfl (fun b1 => ?_)
  refine XL_efd .no (F_stw rfl rfl rfl (by repeat first | with_reducible exact .here _ _ | with_reducible apply Out.there) tk_31 rfl rfl) ?_
  refine XL_then ?_
  refine X_seq ?_
  refine X_seq ?_
  refine X_region ?_
  refine XL_det .no (D_pure rfl) rfl ?_
  refine XL_then ?_
  refine X_block ?_
  refine X_loop (α := Nat) (fun i => i ≤ 32) (fun i => [(8, .int .i64 (i : Int)), (7, .pointer (some ⟨b1, 0, none⟩)), (0, .int .u32 a.toNat), (1, .int .u32 b.toNat), (2, .int .i64 t)]) (fun i => [blk b1 [.int .u32 (ofC a b).1.toNat, .int .u32 (ofC a b).2.1.toNat, .int .u32 (ofC a b).2.2.toNat] 31]) (fun i => 32 - i) 0 ?_ (by refine ⟨?_, ?_, ?_, ?_, ?_, trivial⟩ <;> rfl) (by repeat first | with_reducible exact .nil _ | with_reducible exact .here _ _ | with_reducible apply Take.cons | with_reducible apply Out.there) ?_
  · exact Nat.zero_le _
  · intro i hi
    refine X_seq ?_
    refine X_seq ?_
    refine X_region ?_
    refine XL_det .no (D_pure rfl) rfl ?_
    refine XL_det .no (D_pure rfl) rfl ?_
    refine XL_then ?_
    refine X_cond rfl (fun h1 => ?_) (fun h1 => ?_)
    · try simp only [decide_eq_true_eq, decide_eq_false_iff_not, Bool.not_eq_true', Bool.not_eq_false', beq_iff_eq, bne_iff_ne, beq_eq_false_iff_ne, bne_eq_false_iff_eq, Int.not_lt, Int.not_le, gt_iff_lt, ge_iff_le, ne_eq] at h1
      refine X_skip ?_
      refine thenX_normal ?_
      refine X_seq ?_
      refine X_block ?_
      refine X_seq ?_
      refine X_region ?_
      refine XL_det .no (D_pure rfl) rfl ?_
      refine XL_det .no (D_pure rfl) rfl ?_
      refine XL_callv .no en_12 rfl (has _ _) rfl ?_
      refine XL_det .no (D_pure rfl) rfl ?_
      refine XL_det .no (D_pure rfl) rfl ?_
      refine XL_callv .no en_12 rfl (has _ _) rfl ?_
      refine XL_det .no (D_pure rfl) rfl ?_
      refine XL_det .no (D_pure rfl) rfl ?_
      refine XL_then ?_
      refine X_seq ?_
      refine X_region ?_
      refine XL_det .no (D_fld rfl fld_31_0 (o' := 0) rfl) rfl ?_
      refine XL_det .no (D_ldo rfl (by repeat first | with_reducible exact .here _ _ | with_reducible apply Out.there) tk_29 (by rfl)) rfl ?_
      refine XL_det .no (D_pure rfl) rfl ?_
      refine XL_callv .no en_12 rfl (has (ofC a b).1 _) rfl ?_
      refine XL_det .no (D_pure rfl) rfl ?_
      refine XL_det .no (D_pure rfl) rfl ?_
      refine XL_split (t := 30) rfl (fun h2 => ?_) (fun h2 => ?_)
      · try simp only [decide_eq_true_eq, decide_eq_false_iff_not, Bool.not_eq_true', Bool.not_eq_false', beq_iff_eq, bne_iff_ne, beq_eq_false_iff_ne, bne_eq_false_iff_eq, Int.not_lt, Int.not_le, gt_iff_lt, ge_iff_le, ne_eq] at h2
        refine XL_det (.yes 30 rfl rfl rfl) (D_pure rfl) rfl ?_
        refine XL_det (.yes 30 rfl rfl rfl) (D_pure rfl) rfl ?_
        refine XL_det .no (D_pure rfl) rfl ?_
        refine XL_det .no (D_eqb (b := false) rfl rfl ub_4 (by simp_all [hasB_c1, hasB_c2, hasB_c3])) rfl ?_
        refine XL_det .no (D_pure rfl) rfl ?_
        refine XL_det (.yes 35 rfl rfl rfl) (D_fld rfl fld_31_1 (o' := 1) rfl) rfl ?_
        refine XL_det (.yes 35 rfl rfl rfl) (D_ldo rfl (by repeat first | with_reducible exact .here _ _ | with_reducible apply Out.there) tk_29 (by rfl)) rfl ?_
        refine XL_det (.yes 35 rfl rfl rfl) (D_pure rfl) rfl ?_
        refine XL_callv (.yes 35 rfl rfl rfl) en_12 rfl (has (ofC a b).2.1 _) rfl ?_
        refine XL_det (.yes 35 rfl rfl rfl) (D_pure rfl) rfl ?_
        refine XL_det (.yes 35 rfl rfl rfl) (D_pure rfl) rfl ?_
        refine XL_split (t := 41) rfl (fun h3 => ?_) (fun h3 => ?_)
        · try simp only [decide_eq_true_eq, decide_eq_false_iff_not, Bool.not_eq_true', Bool.not_eq_false', beq_iff_eq, bne_iff_ne, beq_eq_false_iff_ne, bne_eq_false_iff_eq, Int.not_lt, Int.not_le, gt_iff_lt, ge_iff_le, ne_eq] at h3
          refine XL_det (.yes 41 rfl rfl rfl) (D_pure rfl) rfl ?_
          refine XL_det (.yes 41 rfl rfl rfl) (D_pure rfl) rfl ?_
          refine XL_det (.yes 35 rfl rfl rfl) (D_pure rfl) rfl ?_
          refine XL_det (.yes 35 rfl rfl rfl) (D_eqb (b := false) rfl rfl ub_4 (by simp_all [hasB_c1, hasB_c2, hasB_c3])) rfl ?_
          refine XL_det .no (D_pure rfl) rfl ?_
          refine XL_det .no (D_pure rfl) rfl ?_
          refine XL_det (.yes 47 rfl rfl rfl) (D_fld rfl fld_31_2 (o' := 2) rfl) rfl ?_
          refine XL_det (.yes 47 rfl rfl rfl) (D_ldo rfl (by repeat first | with_reducible exact .here _ _ | with_reducible apply Out.there) tk_29 (by rfl)) rfl ?_
          refine XL_det (.yes 47 rfl rfl rfl) (D_pure rfl) rfl ?_
          refine XL_callv (.yes 47 rfl rfl rfl) en_12 rfl (has (ofC a b).2.2 _) rfl ?_
          refine XL_det (.yes 47 rfl rfl rfl) (D_pure rfl) rfl ?_
          refine XL_det (.yes 47 rfl rfl rfl) (D_pure rfl) rfl ?_
          refine XL_split (t := 53) rfl (fun h4 => ?_) (fun h4 => ?_)
          · try simp only [decide_eq_true_eq, decide_eq_false_iff_not, Bool.not_eq_true', Bool.not_eq_false', beq_iff_eq, bne_iff_ne, beq_eq_false_iff_ne, bne_eq_false_iff_eq, Int.not_lt, Int.not_le, gt_iff_lt, ge_iff_le, ne_eq] at h4
            refine XL_det (.yes 53 rfl rfl rfl) (D_pure rfl) rfl ?_
            refine XL_det (.yes 47 rfl rfl rfl) (D_pure rfl) rfl ?_
            refine XL_det (.yes 47 rfl rfl rfl) (D_eqb (b := false) rfl rfl ub_4 (by simp_all [hasB_c1, hasB_c2, hasB_c3])) rfl ?_
            refine XL_det .no (D_pure rfl) rfl ?_
            refine XL_then ?_
            refine X_cond_f rfl rfl ?_
            refine X_skip ?_
            refine inBlk_normal ?_
            refine thenX_normal ?_
            refine X_region ?_
            refine XL_det .no (D_pure rfl) rfl ?_
            refine XL_det .no (D_add rfl rfl (by omega) (by omega)) rfl ?_
            refine XL_det .no (D_pure rfl) rfl ?_
            refine XL_nil ?_
            refine loopQ_next (i + 1) ?_ ?_ ?_ ?_
            · omega
            · omega
            · refine ⟨?_, ?_, ?_, ?_, ?_, trivial⟩ <;> rfl
            · exact ⟨_, (by repeat first | with_reducible exact .nil _ | with_reducible exact .here _ _ | with_reducible apply Take.cons | with_reducible apply Out.there)⟩
          · try simp only [decide_eq_true_eq, decide_eq_false_iff_not, Bool.not_eq_true', Bool.not_eq_false', beq_iff_eq, bne_iff_ne, beq_eq_false_iff_ne, bne_eq_false_iff_eq, Int.not_lt, Int.not_le, gt_iff_lt, ge_iff_le, ne_eq] at h4
            refine XL_skip 53 rfl rfl rfl rfl rfl ?_
            refine XL_det (.yes 47 rfl rfl rfl) (D_pure rfl) rfl ?_
            refine XL_det (.yes 47 rfl rfl rfl) (D_eqb (b := false) rfl rfl ub_4 (by simp_all [hasB_c1, hasB_c2, hasB_c3])) rfl ?_
            refine XL_det .no (D_pure rfl) rfl ?_
            refine XL_then ?_
            refine X_cond_f rfl rfl ?_
            refine X_skip ?_
            refine inBlk_normal ?_
            refine thenX_normal ?_
            refine X_region ?_
            refine XL_det .no (D_pure rfl) rfl ?_
            refine XL_det .no (D_add rfl rfl (by omega) (by omega)) rfl ?_
            refine XL_det .no (D_pure rfl) rfl ?_
            refine XL_nil ?_
            refine loopQ_next (i + 1) ?_ ?_ ?_ ?_
            · omega
            · omega
            · refine ⟨?_, ?_, ?_, ?_, ?_, trivial⟩ <;> rfl
            · exact ⟨_, (by repeat first | with_reducible exact .nil _ | with_reducible exact .here _ _ | with_reducible apply Take.cons | with_reducible apply Out.there)⟩
        · try simp only [decide_eq_true_eq, decide_eq_false_iff_not, Bool.not_eq_true', Bool.not_eq_false', beq_iff_eq, bne_iff_ne, beq_eq_false_iff_ne, bne_eq_false_iff_eq, Int.not_lt, Int.not_le, gt_iff_lt, ge_iff_le, ne_eq] at h3
          refine XL_skip 41 rfl rfl rfl rfl rfl ?_
          refine XL_skip 41 rfl rfl rfl rfl rfl ?_
          refine XL_det (.yes 35 rfl rfl rfl) (D_pure rfl) rfl ?_
          refine XL_det (.yes 35 rfl rfl rfl) (D_eqb (b := false) rfl rfl ub_4 (by simp_all [hasB_c1, hasB_c2, hasB_c3])) rfl ?_
          refine XL_det .no (D_pure rfl) rfl ?_
          refine XL_det .no (D_pure rfl) rfl ?_
          refine XL_det (.yes 47 rfl rfl rfl) (D_fld rfl fld_31_2 (o' := 2) rfl) rfl ?_
          refine XL_det (.yes 47 rfl rfl rfl) (D_ldo rfl (by repeat first | with_reducible exact .here _ _ | with_reducible apply Out.there) tk_29 (by rfl)) rfl ?_
          refine XL_det (.yes 47 rfl rfl rfl) (D_pure rfl) rfl ?_
          refine XL_callv (.yes 47 rfl rfl rfl) en_12 rfl (has (ofC a b).2.2 _) rfl ?_
          refine XL_det (.yes 47 rfl rfl rfl) (D_pure rfl) rfl ?_
          refine XL_det (.yes 47 rfl rfl rfl) (D_pure rfl) rfl ?_
          refine XL_split (t := 53) rfl (fun h5 => ?_) (fun h5 => ?_)
          · try simp only [decide_eq_true_eq, decide_eq_false_iff_not, Bool.not_eq_true', Bool.not_eq_false', beq_iff_eq, bne_iff_ne, beq_eq_false_iff_ne, bne_eq_false_iff_eq, Int.not_lt, Int.not_le, gt_iff_lt, ge_iff_le, ne_eq] at h5
            refine XL_det (.yes 53 rfl rfl rfl) (D_pure rfl) rfl ?_
            refine XL_det (.yes 47 rfl rfl rfl) (D_pure rfl) rfl ?_
            refine XL_det (.yes 47 rfl rfl rfl) (D_eqb (b := false) rfl rfl ub_4 (by simp_all [hasB_c1, hasB_c2, hasB_c3])) rfl ?_
            refine XL_det .no (D_pure rfl) rfl ?_
            refine XL_then ?_
            refine X_cond_f rfl rfl ?_
            refine X_skip ?_
            refine inBlk_normal ?_
            refine thenX_normal ?_
            refine X_region ?_
            refine XL_det .no (D_pure rfl) rfl ?_
            refine XL_det .no (D_add rfl rfl (by omega) (by omega)) rfl ?_
            refine XL_det .no (D_pure rfl) rfl ?_
            refine XL_nil ?_
            refine loopQ_next (i + 1) ?_ ?_ ?_ ?_
            · omega
            · omega
            · refine ⟨?_, ?_, ?_, ?_, ?_, trivial⟩ <;> rfl
            · exact ⟨_, (by repeat first | with_reducible exact .nil _ | with_reducible exact .here _ _ | with_reducible apply Take.cons | with_reducible apply Out.there)⟩
          · try simp only [decide_eq_true_eq, decide_eq_false_iff_not, Bool.not_eq_true', Bool.not_eq_false', beq_iff_eq, bne_iff_ne, beq_eq_false_iff_ne, bne_eq_false_iff_eq, Int.not_lt, Int.not_le, gt_iff_lt, ge_iff_le, ne_eq] at h5
            refine XL_skip 53 rfl rfl rfl rfl rfl ?_
            refine XL_det (.yes 47 rfl rfl rfl) (D_pure rfl) rfl ?_
            refine XL_det (.yes 47 rfl rfl rfl) (D_eqb (b := false) rfl rfl ub_4 (by simp_all [hasB_c1, hasB_c2, hasB_c3])) rfl ?_
            refine XL_det .no (D_pure rfl) rfl ?_
            refine XL_then ?_
            refine X_cond_f rfl rfl ?_
            refine X_skip ?_
            refine inBlk_normal ?_
            refine thenX_normal ?_
            refine X_region ?_
            refine XL_det .no (D_pure rfl) rfl ?_
            refine XL_det .no (D_add rfl rfl (by omega) (by omega)) rfl ?_
            refine XL_det .no (D_pure rfl) rfl ?_
            refine XL_nil ?_
            refine loopQ_next (i + 1) ?_ ?_ ?_ ?_
            · omega
            · omega
            · refine ⟨?_, ?_, ?_, ?_, ?_, trivial⟩ <;> rfl
            · exact ⟨_, (by repeat first | with_reducible exact .nil _ | with_reducible exact .here _ _ | with_reducible apply Take.cons | with_reducible apply Out.there)⟩
      · try simp only [decide_eq_true_eq, decide_eq_false_iff_not, Bool.not_eq_true', Bool.not_eq_false', beq_iff_eq, bne_iff_ne, beq_eq_false_iff_ne, bne_eq_false_iff_eq, Int.not_lt, Int.not_le, gt_iff_lt, ge_iff_le, ne_eq] at h2
        refine XL_skip 30 rfl rfl rfl rfl rfl ?_
        refine XL_skip 30 rfl rfl rfl rfl rfl ?_
        refine XL_det .no (D_pure rfl) rfl ?_
        refine XL_det .no (D_eqb (b := false) rfl rfl ub_4 (by simp_all [hasB_c1, hasB_c2, hasB_c3])) rfl ?_
        refine XL_det .no (D_pure rfl) rfl ?_
        refine XL_det (.yes 35 rfl rfl rfl) (D_fld rfl fld_31_1 (o' := 1) rfl) rfl ?_
        refine XL_det (.yes 35 rfl rfl rfl) (D_ldo rfl (by repeat first | with_reducible exact .here _ _ | with_reducible apply Out.there) tk_29 (by rfl)) rfl ?_
        refine XL_det (.yes 35 rfl rfl rfl) (D_pure rfl) rfl ?_
        refine XL_callv (.yes 35 rfl rfl rfl) en_12 rfl (has (ofC a b).2.1 _) rfl ?_
        refine XL_det (.yes 35 rfl rfl rfl) (D_pure rfl) rfl ?_
        refine XL_det (.yes 35 rfl rfl rfl) (D_pure rfl) rfl ?_
        refine XL_split (t := 41) rfl (fun h6 => ?_) (fun h6 => ?_)
        · try simp only [decide_eq_true_eq, decide_eq_false_iff_not, Bool.not_eq_true', Bool.not_eq_false', beq_iff_eq, bne_iff_ne, beq_eq_false_iff_ne, bne_eq_false_iff_eq, Int.not_lt, Int.not_le, gt_iff_lt, ge_iff_le, ne_eq] at h6
          refine XL_det (.yes 41 rfl rfl rfl) (D_pure rfl) rfl ?_
          refine XL_det (.yes 41 rfl rfl rfl) (D_pure rfl) rfl ?_
          refine XL_det (.yes 35 rfl rfl rfl) (D_pure rfl) rfl ?_
          refine XL_det (.yes 35 rfl rfl rfl) (D_eqb (b := false) rfl rfl ub_4 (by simp_all [hasB_c1, hasB_c2, hasB_c3])) rfl ?_
          refine XL_det .no (D_pure rfl) rfl ?_
          refine XL_det .no (D_pure rfl) rfl ?_
          refine XL_det (.yes 47 rfl rfl rfl) (D_fld rfl fld_31_2 (o' := 2) rfl) rfl ?_
          refine XL_det (.yes 47 rfl rfl rfl) (D_ldo rfl (by repeat first | with_reducible exact .here _ _ | with_reducible apply Out.there) tk_29 (by rfl)) rfl ?_
          refine XL_det (.yes 47 rfl rfl rfl) (D_pure rfl) rfl ?_
          refine XL_callv (.yes 47 rfl rfl rfl) en_12 rfl (has (ofC a b).2.2 _) rfl ?_
          refine XL_det (.yes 47 rfl rfl rfl) (D_pure rfl) rfl ?_
          refine XL_det (.yes 47 rfl rfl rfl) (D_pure rfl) rfl ?_
          refine XL_split (t := 53) rfl (fun h7 => ?_) (fun h7 => ?_)
          · try simp only [decide_eq_true_eq, decide_eq_false_iff_not, Bool.not_eq_true', Bool.not_eq_false', beq_iff_eq, bne_iff_ne, beq_eq_false_iff_ne, bne_eq_false_iff_eq, Int.not_lt, Int.not_le, gt_iff_lt, ge_iff_le, ne_eq] at h7
            refine XL_det (.yes 53 rfl rfl rfl) (D_pure rfl) rfl ?_
            refine XL_det (.yes 47 rfl rfl rfl) (D_pure rfl) rfl ?_
            refine XL_det (.yes 47 rfl rfl rfl) (D_eqb (b := false) rfl rfl ub_4 (by simp_all [hasB_c1, hasB_c2, hasB_c3])) rfl ?_
            refine XL_det .no (D_pure rfl) rfl ?_
            refine XL_then ?_
            refine X_cond_f rfl rfl ?_
            refine X_skip ?_
            refine inBlk_normal ?_
            refine thenX_normal ?_
            refine X_region ?_
            refine XL_det .no (D_pure rfl) rfl ?_
            refine XL_det .no (D_add rfl rfl (by omega) (by omega)) rfl ?_
            refine XL_det .no (D_pure rfl) rfl ?_
            refine XL_nil ?_
            refine loopQ_next (i + 1) ?_ ?_ ?_ ?_
            · omega
            · omega
            · refine ⟨?_, ?_, ?_, ?_, ?_, trivial⟩ <;> rfl
            · exact ⟨_, (by repeat first | with_reducible exact .nil _ | with_reducible exact .here _ _ | with_reducible apply Take.cons | with_reducible apply Out.there)⟩
          · try simp only [decide_eq_true_eq, decide_eq_false_iff_not, Bool.not_eq_true', Bool.not_eq_false', beq_iff_eq, bne_iff_ne, beq_eq_false_iff_ne, bne_eq_false_iff_eq, Int.not_lt, Int.not_le, gt_iff_lt, ge_iff_le, ne_eq] at h7
            refine XL_skip 53 rfl rfl rfl rfl rfl ?_
            refine XL_det (.yes 47 rfl rfl rfl) (D_pure rfl) rfl ?_
            refine XL_det (.yes 47 rfl rfl rfl) (D_eqb (b := false) rfl rfl ub_4 (by simp_all [hasB_c1, hasB_c2, hasB_c3])) rfl ?_
            refine XL_det .no (D_pure rfl) rfl ?_
            refine XL_then ?_
            refine X_cond_f rfl rfl ?_
            refine X_skip ?_
            refine inBlk_normal ?_
            refine thenX_normal ?_
            refine X_region ?_
            refine XL_det .no (D_pure rfl) rfl ?_
            refine XL_det .no (D_add rfl rfl (by omega) (by omega)) rfl ?_
            refine XL_det .no (D_pure rfl) rfl ?_
            refine XL_nil ?_
            refine loopQ_next (i + 1) ?_ ?_ ?_ ?_
            · omega
            · omega
            · refine ⟨?_, ?_, ?_, ?_, ?_, trivial⟩ <;> rfl
            · exact ⟨_, (by repeat first | with_reducible exact .nil _ | with_reducible exact .here _ _ | with_reducible apply Take.cons | with_reducible apply Out.there)⟩
        · try simp only [decide_eq_true_eq, decide_eq_false_iff_not, Bool.not_eq_true', Bool.not_eq_false', beq_iff_eq, bne_iff_ne, beq_eq_false_iff_ne, bne_eq_false_iff_eq, Int.not_lt, Int.not_le, gt_iff_lt, ge_iff_le, ne_eq] at h6
          refine XL_skip 41 rfl rfl rfl rfl rfl ?_
          refine XL_skip 41 rfl rfl rfl rfl rfl ?_
          refine XL_det (.yes 35 rfl rfl rfl) (D_pure rfl) rfl ?_
          refine XL_det (.yes 35 rfl rfl rfl) (D_eqb (b := false) rfl rfl ub_4 (by simp_all [hasB_c1, hasB_c2, hasB_c3])) rfl ?_
          refine XL_det .no (D_pure rfl) rfl ?_
          refine XL_det .no (D_pure rfl) rfl ?_
          refine XL_det (.yes 47 rfl rfl rfl) (D_fld rfl fld_31_2 (o' := 2) rfl) rfl ?_
          refine XL_det (.yes 47 rfl rfl rfl) (D_ldo rfl (by repeat first | with_reducible exact .here _ _ | with_reducible apply Out.there) tk_29 (by rfl)) rfl ?_
          refine XL_det (.yes 47 rfl rfl rfl) (D_pure rfl) rfl ?_
          refine XL_callv (.yes 47 rfl rfl rfl) en_12 rfl (has (ofC a b).2.2 _) rfl ?_
          refine XL_det (.yes 47 rfl rfl rfl) (D_pure rfl) rfl ?_
          refine XL_det (.yes 47 rfl rfl rfl) (D_pure rfl) rfl ?_
          refine XL_split (t := 53) rfl (fun h8 => ?_) (fun h8 => ?_)
          · try simp only [decide_eq_true_eq, decide_eq_false_iff_not, Bool.not_eq_true', Bool.not_eq_false', beq_iff_eq, bne_iff_ne, beq_eq_false_iff_ne, bne_eq_false_iff_eq, Int.not_lt, Int.not_le, gt_iff_lt, ge_iff_le, ne_eq] at h8
            refine XL_det (.yes 53 rfl rfl rfl) (D_pure rfl) rfl ?_
            refine XL_det (.yes 47 rfl rfl rfl) (D_pure rfl) rfl ?_
            refine XL_det (.yes 47 rfl rfl rfl) (D_eqb (b := false) rfl rfl ub_4 (by simp_all [hasB_c1, hasB_c2, hasB_c3])) rfl ?_
            refine XL_det .no (D_pure rfl) rfl ?_
            refine XL_then ?_
            refine X_cond_f rfl rfl ?_
            refine X_skip ?_
            refine inBlk_normal ?_
            refine thenX_normal ?_
            refine X_region ?_
            refine XL_det .no (D_pure rfl) rfl ?_
            refine XL_det .no (D_add rfl rfl (by omega) (by omega)) rfl ?_
            refine XL_det .no (D_pure rfl) rfl ?_
            refine XL_nil ?_
            refine loopQ_next (i + 1) ?_ ?_ ?_ ?_
            · omega
            · omega
            · refine ⟨?_, ?_, ?_, ?_, ?_, trivial⟩ <;> rfl
            · exact ⟨_, (by repeat first | with_reducible exact .nil _ | with_reducible exact .here _ _ | with_reducible apply Take.cons | with_reducible apply Out.there)⟩
          · try simp only [decide_eq_true_eq, decide_eq_false_iff_not, Bool.not_eq_true', Bool.not_eq_false', beq_iff_eq, bne_iff_ne, beq_eq_false_iff_ne, bne_eq_false_iff_eq, Int.not_lt, Int.not_le, gt_iff_lt, ge_iff_le, ne_eq] at h8
            refine XL_skip 53 rfl rfl rfl rfl rfl ?_
            refine XL_det (.yes 47 rfl rfl rfl) (D_pure rfl) rfl ?_
            refine XL_det (.yes 47 rfl rfl rfl) (D_eqb (b := false) rfl rfl ub_4 (by simp_all [hasB_c1, hasB_c2, hasB_c3])) rfl ?_
            refine XL_det .no (D_pure rfl) rfl ?_
            refine XL_then ?_
            refine X_cond_f rfl rfl ?_
            refine X_skip ?_
            refine inBlk_normal ?_
            refine thenX_normal ?_
            refine X_region ?_
            refine XL_det .no (D_pure rfl) rfl ?_
            refine XL_det .no (D_add rfl rfl (by omega) (by omega)) rfl ?_
            refine XL_det .no (D_pure rfl) rfl ?_
            refine XL_nil ?_
            refine loopQ_next (i + 1) ?_ ?_ ?_ ?_
            · omega
            · omega
            · refine ⟨?_, ?_, ?_, ?_, ?_, trivial⟩ <;> rfl
            · exact ⟨_, (by repeat first | with_reducible exact .nil _ | with_reducible exact .here _ _ | with_reducible apply Take.cons | with_reducible apply Out.there)⟩
    · try simp only [decide_eq_true_eq, decide_eq_false_iff_not, Bool.not_eq_true', Bool.not_eq_false', beq_iff_eq, bne_iff_ne, beq_eq_false_iff_ne, bne_eq_false_iff_eq, Int.not_lt, Int.not_le, gt_iff_lt, ge_iff_le, ne_eq] at h1
      refine X_exit ?_
      refine thenX_exit ?_
      refine loopQ_exit ?_
      refine inBlk_here ?_
      refine thenX_normal ?_
      refine X_seq ?_
      refine X_region ?_
      refine XL_det .no (D_pure rfl) rfl ?_
      refine XL_then ?_
      refine X_seq ?_
      refine X_seq ?_
      refine X_region ?_
      refine XL_det .no (D_pure rfl) rfl ?_
      refine XL_det .no (D_pure rfl) rfl ?_
      refine XL_callv .no en_12 rfl (has _ _) rfl ?_
      refine XL_then ?_
      refine X_cond rfl (fun h9 => ?_) (fun h9 => ?_)
      · try simp only [decide_eq_true_eq, decide_eq_false_iff_not, Bool.not_eq_true', Bool.not_eq_false', beq_iff_eq, bne_iff_ne, beq_eq_false_iff_ne, bne_eq_false_iff_eq, Int.not_lt, Int.not_le, gt_iff_lt, ge_iff_le, ne_eq] at h9
        refine X_region ?_
        refine XL_det .no (D_pure rfl) rfl ?_
        refine XL_then ?_
        refine X_seq ?_
        refine X_seq ?_
        refine X_region ?_
        refine XL_det .no (D_pure rfl) rfl ?_
        refine XL_det .no (D_pure rfl) rfl ?_
        refine XL_callv .no en_12 rfl (has _ _) rfl ?_
        refine XL_then ?_
        refine X_cond rfl (fun h10 => ?_) (fun h10 => ?_)
        · try simp only [decide_eq_true_eq, decide_eq_false_iff_not, Bool.not_eq_true', Bool.not_eq_false', beq_iff_eq, bne_iff_ne, beq_eq_false_iff_ne, bne_eq_false_iff_eq, Int.not_lt, Int.not_le, gt_iff_lt, ge_iff_le, ne_eq] at h10
          refine X_region ?_
          refine XL_det .no (D_pure rfl) rfl ?_
          refine XL_det .no (D_add rfl rfl (by omega) (by omega)) rfl ?_
          refine XL_det .no (D_pure rfl) rfl ?_
          refine XL_then ?_
          refine X_seq ?_
          refine X_region ?_
          refine XL_det .no (D_ldso rfl (by repeat first | with_reducible exact .here _ _ | with_reducible apply Out.there) tk_31 rfl (by rfl)) rfl ?_
          refine XL_det .no (D_pure rfl) rfl ?_
          refine XL_callv .no en_13 rfl (ckind (ofC a b) _) rfl ?_
          refine XL_det .no (D_pure rfl) rfl ?_
          refine XL_det .no (D_pure (v := .bool true) (bt (by simp_all [kindOf, hasB_c1, hasB_c2, hasB_c3]))) rfl ?_
          refine XL_det .no (D_pure rfl) rfl ?_
          refine XL_det (.yes 71 rfl rfl rfl) (D_ldso rfl (by repeat first | with_reducible exact .here _ _ | with_reducible apply Out.there) tk_31 rfl (by rfl)) rfl ?_
          refine XL_callv (.yes 71 rfl rfl rfl) en_14 rfl (cfrom (ofC a b)) rfl ?_
          refine XL_det (.yes 71 rfl rfl rfl) (D_pure rfl) rfl ?_
          refine XL_det (.yes 71 rfl rfl rfl) (D_pure (v := .bool true) (bt (by rw [from_eq]))) rfl ?_
          refine XL_det .no (D_pure rfl) rfl ?_
          refine XL_det .no (D_pure rfl) rfl ?_
          refine XL_det (.yes 77 rfl rfl rfl) (D_ldso rfl (by repeat first | with_reducible exact .here _ _ | with_reducible apply Out.there) tk_31 rfl (by rfl)) rfl ?_
          refine XL_callv (.yes 77 rfl rfl rfl) en_15 rfl (cto (ofC a b)) rfl ?_
          refine XL_det (.yes 77 rfl rfl rfl) (D_pure rfl) rfl ?_
          refine XL_det (.yes 77 rfl rfl rfl) (D_pure (v := .bool true) (bt (by rw [to_eq]))) rfl ?_
          refine XL_det .no (D_pure rfl) rfl ?_
          refine XL_det .no (D_pure rfl) rfl ?_
          refine XL_det (.yes 83 rfl rfl rfl) (D_ldso rfl (by repeat first | with_reducible exact .here _ _ | with_reducible apply Out.there) tk_31 rfl (by rfl)) rfl ?_
          refine XL_callv (.yes 83 rfl rfl rfl) en_16 rfl (cboth (ofC a b)) rfl ?_
          refine XL_det (.yes 83 rfl rfl rfl) (D_pure rfl) rfl ?_
          refine XL_det (.yes 83 rfl rfl rfl) (D_pure rfl) rfl ?_
          refine XL_det (.yes 83 rfl rfl rfl) (D_bv rfl rfl (bvo _) (bvo _) rfl) rfl ?_
          refine XL_det (.yes 83 rfl rfl rfl) (D_pure (v := .bool true) (bt (by rw [both_eq]))) rfl ?_
          refine XL_det .no (D_pure rfl) rfl ?_
          refine XL_det .no (D_pure rfl) rfl ?_
          refine XL_det (.yes 91 rfl rfl rfl) (D_ldso rfl (by repeat first | with_reducible exact .here _ _ | with_reducible apply Out.there) tk_31 rfl (by rfl)) rfl ?_
          refine XL_callv (.yes 91 rfl rfl rfl) en_17 rfl (cback (ofC a b)) rfl ?_
          refine XL_det (.yes 91 rfl rfl rfl) (D_pure rfl) rfl ?_
          refine XL_det (.yes 91 rfl rfl rfl) (D_pure rfl) rfl ?_
          refine XL_callv (.yes 91 rfl rfl rfl) en_11 rfl (tof b a) rfl ?_
          refine XL_det (.yes 91 rfl rfl rfl) (D_eqs (b := true) rfl rfl eqk_31 eqg_31 rfl rfl rfl (cls_self (back_eq a b))) rfl ?_
          refine XL_det .no (D_pure rfl) rfl ?_
          refine XL_det .no (D_pure rfl) rfl ?_
          refine XL_callv (.yes 99 rfl rfl rfl) en_10 rfl (alive14) rfl ?_
          refine XL_det .no (D_pure rfl) rfl ?_
          refine XL_det .no (D_pure rfl) rfl ?_
          refine XL_then ?_
          refine X_ret ?_
          refine ret_ok (.nil _) (res_tmp rfl rfl) ?_
          exact ⟨_, ⟨rfl, rfl⟩, _, (by repeat first | with_reducible exact .nil _ | with_reducible exact .here _ _ | with_reducible apply Take.cons | with_reducible apply Out.there)⟩
        · try simp only [decide_eq_true_eq, decide_eq_false_iff_not, Bool.not_eq_true', Bool.not_eq_false', beq_iff_eq, bne_iff_ne, beq_eq_false_iff_ne, bne_eq_false_iff_eq, Int.not_lt, Int.not_le, gt_iff_lt, ge_iff_le, ne_eq] at h10
          refine X_skip ?_
          refine thenX_normal ?_
          refine X_seq ?_
          refine X_region ?_
          refine XL_det .no (D_ldso rfl (by repeat first | with_reducible exact .here _ _ | with_reducible apply Out.there) tk_31 rfl (by rfl)) rfl ?_
          refine XL_det .no (D_pure rfl) rfl ?_
          refine XL_callv .no en_13 rfl (ckind (ofC a b) _) rfl ?_
          refine XL_det .no (D_pure rfl) rfl ?_
          refine XL_det .no (D_pure (v := .bool true) (bt (by simp_all [kindOf, hasB_c1, hasB_c2, hasB_c3]))) rfl ?_
          refine XL_det .no (D_pure rfl) rfl ?_
          refine XL_det (.yes 71 rfl rfl rfl) (D_ldso rfl (by repeat first | with_reducible exact .here _ _ | with_reducible apply Out.there) tk_31 rfl (by rfl)) rfl ?_
          refine XL_callv (.yes 71 rfl rfl rfl) en_14 rfl (cfrom (ofC a b)) rfl ?_
          refine XL_det (.yes 71 rfl rfl rfl) (D_pure rfl) rfl ?_
          refine XL_det (.yes 71 rfl rfl rfl) (D_pure (v := .bool true) (bt (by rw [from_eq]))) rfl ?_
          refine XL_det .no (D_pure rfl) rfl ?_
          refine XL_det .no (D_pure rfl) rfl ?_
          refine XL_det (.yes 77 rfl rfl rfl) (D_ldso rfl (by repeat first | with_reducible exact .here _ _ | with_reducible apply Out.there) tk_31 rfl (by rfl)) rfl ?_
          refine XL_callv (.yes 77 rfl rfl rfl) en_15 rfl (cto (ofC a b)) rfl ?_
          refine XL_det (.yes 77 rfl rfl rfl) (D_pure rfl) rfl ?_
          refine XL_det (.yes 77 rfl rfl rfl) (D_pure (v := .bool true) (bt (by rw [to_eq]))) rfl ?_
          refine XL_det .no (D_pure rfl) rfl ?_
          refine XL_det .no (D_pure rfl) rfl ?_
          refine XL_det (.yes 83 rfl rfl rfl) (D_ldso rfl (by repeat first | with_reducible exact .here _ _ | with_reducible apply Out.there) tk_31 rfl (by rfl)) rfl ?_
          refine XL_callv (.yes 83 rfl rfl rfl) en_16 rfl (cboth (ofC a b)) rfl ?_
          refine XL_det (.yes 83 rfl rfl rfl) (D_pure rfl) rfl ?_
          refine XL_det (.yes 83 rfl rfl rfl) (D_pure rfl) rfl ?_
          refine XL_det (.yes 83 rfl rfl rfl) (D_bv rfl rfl (bvo _) (bvo _) rfl) rfl ?_
          refine XL_det (.yes 83 rfl rfl rfl) (D_pure (v := .bool true) (bt (by rw [both_eq]))) rfl ?_
          refine XL_det .no (D_pure rfl) rfl ?_
          refine XL_det .no (D_pure rfl) rfl ?_
          refine XL_det (.yes 91 rfl rfl rfl) (D_ldso rfl (by repeat first | with_reducible exact .here _ _ | with_reducible apply Out.there) tk_31 rfl (by rfl)) rfl ?_
          refine XL_callv (.yes 91 rfl rfl rfl) en_17 rfl (cback (ofC a b)) rfl ?_
          refine XL_det (.yes 91 rfl rfl rfl) (D_pure rfl) rfl ?_
          refine XL_det (.yes 91 rfl rfl rfl) (D_pure rfl) rfl ?_
          refine XL_callv (.yes 91 rfl rfl rfl) en_11 rfl (tof b a) rfl ?_
          refine XL_det (.yes 91 rfl rfl rfl) (D_eqs (b := true) rfl rfl eqk_31 eqg_31 rfl rfl rfl (cls_self (back_eq a b))) rfl ?_
          refine XL_det .no (D_pure rfl) rfl ?_
          refine XL_det .no (D_pure rfl) rfl ?_
          refine XL_callv (.yes 99 rfl rfl rfl) en_10 rfl (alive14) rfl ?_
          refine XL_det .no (D_pure rfl) rfl ?_
          refine XL_det .no (D_pure rfl) rfl ?_
          refine XL_then ?_
          refine X_ret ?_
          refine ret_ok (.nil _) (res_tmp rfl rfl) ?_
          exact ⟨_, ⟨rfl, rfl⟩, _, (by repeat first | with_reducible exact .nil _ | with_reducible exact .here _ _ | with_reducible apply Take.cons | with_reducible apply Out.there)⟩
      · try simp only [decide_eq_true_eq, decide_eq_false_iff_not, Bool.not_eq_true', Bool.not_eq_false', beq_iff_eq, bne_iff_ne, beq_eq_false_iff_ne, bne_eq_false_iff_eq, Int.not_lt, Int.not_le, gt_iff_lt, ge_iff_le, ne_eq] at h9
        refine X_skip ?_
        refine thenX_normal ?_
        refine X_seq ?_
        refine X_seq ?_
        refine X_region ?_
        refine XL_det .no (D_pure rfl) rfl ?_
        refine XL_det .no (D_pure rfl) rfl ?_
        refine XL_callv .no en_12 rfl (has _ _) rfl ?_
        refine XL_then ?_
        refine X_cond rfl (fun h11 => ?_) (fun h11 => ?_)
        · try simp only [decide_eq_true_eq, decide_eq_false_iff_not, Bool.not_eq_true', Bool.not_eq_false', beq_iff_eq, bne_iff_ne, beq_eq_false_iff_ne, bne_eq_false_iff_eq, Int.not_lt, Int.not_le, gt_iff_lt, ge_iff_le, ne_eq] at h11
          refine X_region ?_
          refine XL_det .no (D_pure rfl) rfl ?_
          refine XL_det .no (D_add rfl rfl (by omega) (by omega)) rfl ?_
          refine XL_det .no (D_pure rfl) rfl ?_
          refine XL_then ?_
          refine X_seq ?_
          refine X_region ?_
          refine XL_det .no (D_ldso rfl (by repeat first | with_reducible exact .here _ _ | with_reducible apply Out.there) tk_31 rfl (by rfl)) rfl ?_
          refine XL_det .no (D_pure rfl) rfl ?_
          refine XL_callv .no en_13 rfl (ckind (ofC a b) _) rfl ?_
          refine XL_det .no (D_pure rfl) rfl ?_
          refine XL_det .no (D_pure (v := .bool true) (bt (by simp_all [kindOf, hasB_c1, hasB_c2, hasB_c3]))) rfl ?_
          refine XL_det .no (D_pure rfl) rfl ?_
          refine XL_det (.yes 71 rfl rfl rfl) (D_ldso rfl (by repeat first | with_reducible exact .here _ _ | with_reducible apply Out.there) tk_31 rfl (by rfl)) rfl ?_
          refine XL_callv (.yes 71 rfl rfl rfl) en_14 rfl (cfrom (ofC a b)) rfl ?_
          refine XL_det (.yes 71 rfl rfl rfl) (D_pure rfl) rfl ?_
          refine XL_det (.yes 71 rfl rfl rfl) (D_pure (v := .bool true) (bt (by rw [from_eq]))) rfl ?_
          refine XL_det .no (D_pure rfl) rfl ?_
          refine XL_det .no (D_pure rfl) rfl ?_
          refine XL_det (.yes 77 rfl rfl rfl) (D_ldso rfl (by repeat first | with_reducible exact .here _ _ | with_reducible apply Out.there) tk_31 rfl (by rfl)) rfl ?_
          refine XL_callv (.yes 77 rfl rfl rfl) en_15 rfl (cto (ofC a b)) rfl ?_
          refine XL_det (.yes 77 rfl rfl rfl) (D_pure rfl) rfl ?_
          refine XL_det (.yes 77 rfl rfl rfl) (D_pure (v := .bool true) (bt (by rw [to_eq]))) rfl ?_
          refine XL_det .no (D_pure rfl) rfl ?_
          refine XL_det .no (D_pure rfl) rfl ?_
          refine XL_det (.yes 83 rfl rfl rfl) (D_ldso rfl (by repeat first | with_reducible exact .here _ _ | with_reducible apply Out.there) tk_31 rfl (by rfl)) rfl ?_
          refine XL_callv (.yes 83 rfl rfl rfl) en_16 rfl (cboth (ofC a b)) rfl ?_
          refine XL_det (.yes 83 rfl rfl rfl) (D_pure rfl) rfl ?_
          refine XL_det (.yes 83 rfl rfl rfl) (D_pure rfl) rfl ?_
          refine XL_det (.yes 83 rfl rfl rfl) (D_bv rfl rfl (bvo _) (bvo _) rfl) rfl ?_
          refine XL_det (.yes 83 rfl rfl rfl) (D_pure (v := .bool true) (bt (by rw [both_eq]))) rfl ?_
          refine XL_det .no (D_pure rfl) rfl ?_
          refine XL_det .no (D_pure rfl) rfl ?_
          refine XL_det (.yes 91 rfl rfl rfl) (D_ldso rfl (by repeat first | with_reducible exact .here _ _ | with_reducible apply Out.there) tk_31 rfl (by rfl)) rfl ?_
          refine XL_callv (.yes 91 rfl rfl rfl) en_17 rfl (cback (ofC a b)) rfl ?_
          refine XL_det (.yes 91 rfl rfl rfl) (D_pure rfl) rfl ?_
          refine XL_det (.yes 91 rfl rfl rfl) (D_pure rfl) rfl ?_
          refine XL_callv (.yes 91 rfl rfl rfl) en_11 rfl (tof b a) rfl ?_
          refine XL_det (.yes 91 rfl rfl rfl) (D_eqs (b := true) rfl rfl eqk_31 eqg_31 rfl rfl rfl (cls_self (back_eq a b))) rfl ?_
          refine XL_det .no (D_pure rfl) rfl ?_
          refine XL_det .no (D_pure rfl) rfl ?_
          refine XL_callv (.yes 99 rfl rfl rfl) en_10 rfl (alive14) rfl ?_
          refine XL_det .no (D_pure rfl) rfl ?_
          refine XL_det .no (D_pure rfl) rfl ?_
          refine XL_then ?_
          refine X_ret ?_
          refine ret_ok (.nil _) (res_tmp rfl rfl) ?_
          exact ⟨_, ⟨rfl, rfl⟩, _, (by repeat first | with_reducible exact .nil _ | with_reducible exact .here _ _ | with_reducible apply Take.cons | with_reducible apply Out.there)⟩
        · try simp only [decide_eq_true_eq, decide_eq_false_iff_not, Bool.not_eq_true', Bool.not_eq_false', beq_iff_eq, bne_iff_ne, beq_eq_false_iff_ne, bne_eq_false_iff_eq, Int.not_lt, Int.not_le, gt_iff_lt, ge_iff_le, ne_eq] at h11
          refine X_skip ?_
          refine thenX_normal ?_
          refine X_seq ?_
          refine X_region ?_
          refine XL_det .no (D_ldso rfl (by repeat first | with_reducible exact .here _ _ | with_reducible apply Out.there) tk_31 rfl (by rfl)) rfl ?_
          refine XL_det .no (D_pure rfl) rfl ?_
          refine XL_callv .no en_13 rfl (ckind (ofC a b) _) rfl ?_
          refine XL_det .no (D_pure rfl) rfl ?_
          refine XL_det .no (D_pure (v := .bool true) (bt (by simp_all [kindOf, hasB_c1, hasB_c2, hasB_c3]))) rfl ?_
          refine XL_det .no (D_pure rfl) rfl ?_
          refine XL_det (.yes 71 rfl rfl rfl) (D_ldso rfl (by repeat first | with_reducible exact .here _ _ | with_reducible apply Out.there) tk_31 rfl (by rfl)) rfl ?_
          refine XL_callv (.yes 71 rfl rfl rfl) en_14 rfl (cfrom (ofC a b)) rfl ?_
          refine XL_det (.yes 71 rfl rfl rfl) (D_pure rfl) rfl ?_
          refine XL_det (.yes 71 rfl rfl rfl) (D_pure (v := .bool true) (bt (by rw [from_eq]))) rfl ?_
          refine XL_det .no (D_pure rfl) rfl ?_
          refine XL_det .no (D_pure rfl) rfl ?_
          refine XL_det (.yes 77 rfl rfl rfl) (D_ldso rfl (by repeat first | with_reducible exact .here _ _ | with_reducible apply Out.there) tk_31 rfl (by rfl)) rfl ?_
          refine XL_callv (.yes 77 rfl rfl rfl) en_15 rfl (cto (ofC a b)) rfl ?_
          refine XL_det (.yes 77 rfl rfl rfl) (D_pure rfl) rfl ?_
          refine XL_det (.yes 77 rfl rfl rfl) (D_pure (v := .bool true) (bt (by rw [to_eq]))) rfl ?_
          refine XL_det .no (D_pure rfl) rfl ?_
          refine XL_det .no (D_pure rfl) rfl ?_
          refine XL_det (.yes 83 rfl rfl rfl) (D_ldso rfl (by repeat first | with_reducible exact .here _ _ | with_reducible apply Out.there) tk_31 rfl (by rfl)) rfl ?_
          refine XL_callv (.yes 83 rfl rfl rfl) en_16 rfl (cboth (ofC a b)) rfl ?_
          refine XL_det (.yes 83 rfl rfl rfl) (D_pure rfl) rfl ?_
          refine XL_det (.yes 83 rfl rfl rfl) (D_pure rfl) rfl ?_
          refine XL_det (.yes 83 rfl rfl rfl) (D_bv rfl rfl (bvo _) (bvo _) rfl) rfl ?_
          refine XL_det (.yes 83 rfl rfl rfl) (D_pure (v := .bool true) (bt (by rw [both_eq]))) rfl ?_
          refine XL_det .no (D_pure rfl) rfl ?_
          refine XL_det .no (D_pure rfl) rfl ?_
          refine XL_det (.yes 91 rfl rfl rfl) (D_ldso rfl (by repeat first | with_reducible exact .here _ _ | with_reducible apply Out.there) tk_31 rfl (by rfl)) rfl ?_
          refine XL_callv (.yes 91 rfl rfl rfl) en_17 rfl (cback (ofC a b)) rfl ?_
          refine XL_det (.yes 91 rfl rfl rfl) (D_pure rfl) rfl ?_
          refine XL_det (.yes 91 rfl rfl rfl) (D_pure rfl) rfl ?_
          refine XL_callv (.yes 91 rfl rfl rfl) en_11 rfl (tof b a) rfl ?_
          refine XL_det (.yes 91 rfl rfl rfl) (D_eqs (b := true) rfl rfl eqk_31 eqg_31 rfl rfl rfl (cls_self (back_eq a b))) rfl ?_
          refine XL_det .no (D_pure rfl) rfl ?_
          refine XL_det .no (D_pure rfl) rfl ?_
          refine XL_callv (.yes 99 rfl rfl rfl) en_10 rfl (alive14) rfl ?_
          refine XL_det .no (D_pure rfl) rfl ?_
          refine XL_det .no (D_pure rfl) rfl ?_
          refine XL_then ?_
          refine X_ret ?_
          refine ret_ok (.nil _) (res_tmp rfl rfl) ?_
          exact ⟨_, ⟨rfl, rfl⟩, _, (by repeat first | with_reducible exact .nil _ | with_reducible exact .here _ _ | with_reducible apply Take.cons | with_reducible apply Out.there)⟩

end Go.Proofs.Ytbejafkklbmaoaa
end

section
namespace Go.Proofs.Ytbejafkklbmaoaa
open Go Go.Sl Go.ChangeShapes Go.WideShapes Go.ChangeAt Go.RowKit
set_option linter.unusedVariables false
theorem own : ownKnob Try.prog.godebug = none := by kernel_rfl
theorem laidOut : laidOutB Try.prog = true := by kernel_rfl

theorem ui_int : Try.prog.underlying 3 = some (.int .i64) := by kernel_rfl
theorem ui_set : Try.prog.underlying 29 = some (.int .u32) := by kernel_rfl

/-- The walk, at the arguments as the row reads them. -/
theorem walkClassTells (W : World) (args : Array Value) (h : ArgsOk Try.prog W Try.f4.params.toList args.toList) : Calls Try.prog 4 args W fun e w' => e = .returned (.bool true) ∧ Go.RowKit.Below W.heap.size W w' := by
  rw [show Try.f4.params.toList = [29, 29, 3] from by kernel_rfl] at h
  obtain ⟨args⟩ := args
  match args, h with
  | [v0, v1, v2], h =>
    obtain ⟨a0, a1, a2, _⟩ := h
    obtain ⟨a, rfl, ha⟩ := arg_int ui_set a0
    obtain ⟨b, rfl, hb⟩ := arg_int ui_set a1
    obtain ⟨t, rfl, _⟩ := arg_int ui_int a2
    obtain ⟨a, rfl⟩ := u32_bv ha
    obtain ⟨b, rfl⟩ := u32_bv hb
    exact calls_of (show Sts [] (fun _ => False) W from fun _ h => h) ((classTells a b t).mono fun _ _ h => h.1)

set_option maxRecDepth 100000 in
theorem liftedClassTells (os : Os) (started : os.Started) (H : Type) (enc : TypeId × Value → H) :
    ReturnsInHanded {} Try.checked os 4 .any (Rows.classTellsSpec.pre6 enc Try.prog Try.f4 Rows.classTellsRow.domain false) (Rows.classTellsSpec.post enc Try.prog Try.f4 false true false false) :=
  handed (C := Try.checked) (tb := 4) own started (by kernel_rfl) Try.func4 laidOut (by kernel_rfl) rfl
    (fun ds h => by
      have h : ds.length = 3 := h
      match ds, h with
      | [_, _, _], _ => exact ⟨rfl, rfl, rfl⟩) (by kernel_rfl) (by kernel_rfl)
    (ChangeSpec.witness6 (enc := enc) (C := Try.checked) false ⟨#[], #[.int .u32 0, .int .u32 0, .int .i64 0], []⟩ 8 (by kernel_rfl) (by kernel_rfl) (by kernel_rfl) (by kernel_rfl))
    (fun W args h => walkClassTells W args h)

theorem overClassTells : Rows.classTellsRow.holds Try.pinned (OpenSpec.ofChange Rows.classTellsSpec) :=
  OpenClaim.holds_of_wide 4 Try.f4 rfl rfl rfl rfl rfl rfl rfl ⟨rfl, rfl, rfl, rfl, rfl⟩ rfl rfl rfl rfl rfl (by kernel_rfl) Try.func4 (by kernel_rfl)
    (of_decide_eq_true (by kernel_rfl)) (by unfold Func.isWrapper; first | (rw [if_pos (by decide +kernel)]; kernel_rfl) | (rw [if_neg (by decide +kernel)]; exact ⟨rfl, rfl⟩))
    (fun os started H enc _ => liftedClassTells os started H enc)

/-- The statement. -/
theorem provedClassTells : Rows.ClassTellsSaid := overClassTells

#print axioms provedClassTells
end Go.Proofs.Ytbejafkklbmaoaa
end
