/- The given statement JobWorksSaid is proved: a new job is cut to what its task may, holds in each tick of its work what its sections say, holds no resource for longer at once than its task may, and is over just when its work is done. Conditions: at most 1,000 sections, costs from 1 to 500, deadlines and ticks from 0 to 2^40, longest sections from 0 on, as the statement itself says them; none beside. -/
import Derived.Test.YtbejafkklbmaoaaSl
import Derived.KernelRfl
import Derived.Test.YtbejafkklbmaoaaProg
import Derived.Test.YtbejafkklbmaoaaRows
section
namespace Go.Proofs.Ytbejafkklbmaoaa
open Go Go.Sl
set_option linter.unusedVariables false
set_option linter.unusedSimpArgs false
variable {B : Nat} {K : Asrt B}
theorem arr_56 : arrOf Try.prog 56 = some (8, 1) := by kernel_rfl
theorem bld_58 : bldOf Try.prog 58 = some ([.int .i64 0, .int .i64 0, .int .i64 0, .int .i64 0, .int .i64 0, .int .i64 0, .int .i64 0, .int .i64 0, .int .i64 0, .int .i64 0, .int .i64 0], [(0, 1), (1, 1), (2, 1), (3, 8)]) := by kernel_rfl
theorem bld_67 : bldOf Try.prog 67 = some ([.int .i64 0, .int .i64 0, .int .i64 0, .int .i64 0, .int .i64 0, .slice none 0 0], [(0, 1), (1, 1), (2, 1), (3, 1), (4, 1), (5, 1)]) := by kernel_rfl
theorem bld_78 : bldOf Try.prog 78 = some ([.int .i64 0, .int .i64 0, .int .i64 0], [(0, 1), (1, 1), (2, 1)]) := by kernel_rfl
theorem en_20 : Go.Proofs.Enters Try.prog 20 := Go.Proofs.enters_of Try.func20 (by kernel_rfl) rfl
theorem en_21 : Go.Proofs.Enters Try.prog 21 := Go.Proofs.enters_of Try.func21 (by kernel_rfl) rfl
theorem en_22 : Go.Proofs.Enters Try.prog 22 := Go.Proofs.enters_of Try.func22 (by kernel_rfl) rfl
theorem en_23 : Go.Proofs.Enters Try.prog 23 := Go.Proofs.enters_of Try.func23 (by kernel_rfl) rfl
theorem en_24 : Go.Proofs.Enters Try.prog 24 := Go.Proofs.enters_of Try.func24 (by kernel_rfl) rfl
theorem en_25 : Go.Proofs.Enters Try.prog 25 := Go.Proofs.enters_of Try.func25 (by kernel_rfl) rfl
theorem en_38 : Go.Proofs.Enters Try.prog 38 := Go.Proofs.enters_of Try.func38 (by kernel_rfl) rfl
theorem en_39 : Go.Proofs.Enters Try.prog 39 := Go.Proofs.enters_of Try.func39 (by kernel_rfl) rfl
theorem en_41 : Go.Proofs.Enters Try.prog 41 := Go.Proofs.enters_of Try.func41 (by kernel_rfl) rfl
theorem en_42 : Go.Proofs.Enters Try.prog 42 := Go.Proofs.enters_of Try.func42 (by kernel_rfl) rfl
theorem eqg_78 : Try.prog.eqGuardType Try.prog.depth 78 = false := by kernel_rfl
theorem eqk_58 : eqKinds Try.prog 12 58 = some [some .i64, some .i64, some .i64, some .i64, some .i64, some .i64, some .i64, some .i64, some .i64, some .i64, some .i64] := by kernel_rfl
theorem eqk_78 : eqKinds Try.prog 12 78 = some [some .i64, some .i64, some .i64] := by kernel_rfl
theorem fld_58_1 : fldOff Try.prog 58 1 = some 1 := by kernel_rfl
theorem fld_58_2 : fldOff Try.prog 58 2 = some 2 := by kernel_rfl
theorem fld_58_3 : fldOff Try.prog 58 3 = some 3 := by kernel_rfl
theorem fld_67_0 : fldOff Try.prog 67 0 = some 0 := by kernel_rfl
theorem fld_67_2 : fldOff Try.prog 67 2 = some 2 := by kernel_rfl
theorem fld_67_3 : fldOff Try.prog 67 3 = some 3 := by kernel_rfl
theorem fld_67_5 : fldOff Try.prog 67 5 = some 5 := by kernel_rfl
theorem fld_78_0 : fldOff Try.prog 78 0 = some 0 := by kernel_rfl
theorem fld_78_1 : fldOff Try.prog 78 1 = some 1 := by kernel_rfl
theorem fld_78_2 : fldOff Try.prog 78 2 = some 2 := by kernel_rfl
theorem mixed : Try.prog.follows .mixedOrders = true := by kernel_rfl
theorem slc_59 : slcOf Try.prog 59 = some (78, 3) := by kernel_rfl
theorem slt_59 : slT Try.prog 59 = some (78, 3, 24, [.int .i64 0, .int .i64 0, .int .i64 0]) := by kernel_rfl
theorem tk_3 : tyK Try.prog 3 = some (false, 1) := by kernel_rfl
theorem tk_58 : tyK Try.prog 58 = some (true, 11) := by kernel_rfl
theorem tk_59 : tyK Try.prog 59 = some (false, 1) := by kernel_rfl
theorem tk_67 : tyK Try.prog 67 = some (true, 6) := by kernel_rfl
theorem tk_78 : tyK Try.prog 78 = some (true, 3) := by kernel_rfl
theorem uf_80 : isFuncT Try.prog 80 = true := by kernel_rfl
theorem zero_58 : zeroOf Try.prog 58 = some [.int .i64 0, .int .i64 0, .int .i64 0, .int .i64 0, .int .i64 0, .int .i64 0, .int .i64 0, .int .i64 0, .int .i64 0, .int .i64 0, .int .i64 0] := by kernel_rfl
theorem zero_59 : zeroOf Try.prog 59 = some [.slice none 0 0] := by kernel_rfl
theorem zero_67 : zeroOf Try.prog 67 = some [.int .i64 0, .int .i64 0, .int .i64 0, .int .i64 0, .int .i64 0, .slice none 0 0] := by kernel_rfl
theorem zero_78 : zeroOf Try.prog 78 = some [.int .i64 0, .int .i64 0, .int .i64 0] := by kernel_rfl
theorem zk_78 : (match Try.prog.underlying 78 with | some (.struct _) => (bldOf Try.prog 78).isSome | some (.array _ e) => (Try.prog.info? e).isSome | _ => false) = true := by kernel_rfl

abbrev Sec := Int × Int × Int
abbrev encS (s : Sec) : List Value := [.int .i64 s.1, .int .i64 s.2.1, .int .i64 s.2.2]
abbrev secV (s : Sec) : Value := .agg #[.int .i64 s.1, .int .i64 s.2.1, .int .i64 s.2.2]
abbrev encT (e : Nat → Int) : List Value := [.int .i64 (e 0), .int .i64 (e 1), .int .i64 (e 2), .int .i64 (e 3), .int .i64 (e 4), .int .i64 (e 5), .int .i64 (e 6), .int .i64 (e 7), .int .i64 (e 8), .int .i64 (e 9), .int .i64 (e 10)]
abbrev tV (e : Nat → Int) : Value := .agg #[.int .i64 (e 0), .int .i64 (e 1), .int .i64 (e 2), .int .i64 (e 3), .int .i64 (e 4), .int .i64 (e 5), .int .i64 (e 6), .int .i64 (e 7), .int .i64 (e 8), .int .i64 (e 9), .int .i64 (e 10)]
theorem encT_get {e : Nat → Int} {j : Nat} (h : j < 8) : (encT e)[3 + j * 1]? = some (.int .i64 (e (3 + j))) := by
  rcases (by omega : j = 0 ∨ j = 1 ∨ j = 2 ∨ j = 3 ∨ j = 4 ∨ j = 5 ∨ j = 6 ∨ j = 7) with rfl | rfl | rfl | rfl | rfl | rfl | rfl | rfl <;> rfl
def cutS (T : Nat → Int) (cost from_ : Int) (s : Sec) : Option Sec :=
  if s.1 < 0 ∨ s.1 ≥ 8 ∨ T (3 + s.1.toNat) = 0 ∨ s.2.1 < from_ ∨ s.2.1 ≥ cost ∨ s.2.2 ≤ s.2.1 then none
  else some (s.1, s.2.1, if min s.2.2 cost - s.2.1 > T (3 + s.1.toNat) then s.2.1 + T (3 + s.1.toNat) else min s.2.2 cost)
abbrev cutV (o : Option Sec) : Value := .tuple #[secV (o.getD (0, 0, 0)), .bool o.isSome]
theorem cutS_o {T : Nat → Int} {cost from_ : Int} {s : Sec} (h : s.1 < 0 ∨ s.1 ≥ 8) : cutS T cost from_ s = none := by unfold cutS; rw [if_pos (by omega)]
theorem cutS_n {T : Nat → Int} {cost from_ : Int} {s : Sec} {j : Nat} (hj : s.1 = (j : Int)) (h : T (3 + j) = 0 ∨ s.2.1 < from_ ∨ s.2.1 ≥ cost ∨ s.2.2 ≤ s.2.1) : cutS T cost from_ s = none := by
  unfold cutS; rw [hj, Int.toNat_natCast, if_pos (by omega)]
theorem cutS_s {T : Nat → Int} {cost from_ : Int} {s : Sec} {j : Nat} (hj : s.1 = (j : Int)) (h8 : j < 8) (h : ¬ (T (3 + j) = 0 ∨ s.2.1 < from_ ∨ s.2.1 ≥ cost ∨ s.2.2 ≤ s.2.1)) :
    cutS T cost from_ s = some (s.1, s.2.1, if min s.2.2 cost - s.2.1 > T (3 + j) then s.2.1 + T (3 + j) else min s.2.2 cost) := by
  unfold cutS; rw [if_neg (by rw [hj, Int.toNat_natCast]; omega), hj, Int.toNat_natCast]
def rightB (T : Nat → Int) : Bool := (List.range 8).all fun j => decide (0 ≤ T (3 + j))
theorem rightB_t {T : Nat → Int} (h : ∀ j, j < 8 → 0 ≤ T (3 + j)) : rightB T = true := List.all_eq_true.2 fun j hj => by simpa using h j (List.mem_range.1 hj)
theorem rightB_f {T : Nat → Int} {j : Nat} (hj : j < 8) (h : T (3 + j) < 0) : rightB T = false := by
  cases hb : rightB T with
  | false => rfl
  | true => have := List.all_eq_true.1 hb j (List.mem_range.2 hj); simp at this; omega
theorem rightB_all {T : Nat → Int} (h : rightB T = true) : ∀ j, j < 8 → 0 ≤ T (3 + j) := fun j hj => by have := List.all_eq_true.1 h j (List.mem_range.2 hj); simpa using this
/-- The sections that fit, cut. -/
def secs (T : Nat → Int) (cost : Int) : Int → Nat → List Sec → List Sec
  | _, _, [] => []
  | from_, many, s :: l => if many = 8 then [] else match cutS T cost from_ s with
    | none => secs T cost from_ many l
    | some c => c :: secs T cost c.2.2 (many + 1) l
theorem secs_8 {T : Nat → Int} {cost from_ : Int} : ∀ (l : List Sec), secs T cost from_ 8 l = []
  | [] => rfl
  | _ :: _ => rfl
theorem secs_n {T : Nat → Int} {cost from_ : Int} {many : Nat} {l : List Sec} {i : Nat} {s : Sec} (h : l[i]? = some s) (hm : many ≠ 8) (hc : cutS T cost from_ s = none) : secs T cost from_ many (l.drop i) = secs T cost from_ many (l.drop (i + 1)) := by
  have hi := (List.getElem?_eq_some_iff.1 h).1
  rw [List.drop_eq_getElem_cons hi, show l[i] = s from by rw [List.getElem?_eq_getElem hi] at h; exact Option.some.inj h]
  rw [secs, if_neg hm, hc]
theorem secs_s {T : Nat → Int} {cost from_ : Int} {many : Nat} {l : List Sec} {i : Nat} {s c : Sec} (h : l[i]? = some s) (hm : many ≠ 8) (hc : cutS T cost from_ s = some c) : secs T cost from_ many (l.drop i) = c :: secs T cost c.2.2 (many + 1) (l.drop (i + 1)) := by
  have hi := (List.getElem?_eq_some_iff.1 h).1
  rw [List.drop_eq_getElem_cons hi, show l[i] = s from by rw [List.getElem?_eq_getElem hi] at h; exact Option.some.inj h]
  rw [secs, if_neg hm, hc]
theorem cut_to {T : Nat → Int} {cost from_ : Int} {s c : Sec} (hT : ∀ j, j < 8 → 0 ≤ T (3 + j)) (h : cutS T cost from_ s = some c) (hf : 0 ≤ from_) : 0 ≤ c.2.2 ∧ c.2.2 ≤ cost := by
  unfold cutS at h
  split at h
  · cases h
  · simp at h; subst h
    simp only [not_or] at *
    have := hT s.1.toNat (by omega)
    split <;> omega

theorem jcut (T : Nat → Int) (cost from_ : Int) (s : Sec) (hT : ∀ j, j < 8 → 0 ≤ T (3 + j)) (hf : 0 ≤ from_) (hc : cost ≤ 9223372036854775807) : Ctr Try.prog B 42 [tV T, .int .i64 cost, .int .i64 from_, secV s] [] (fun v S => v = cutV (cutS T cost from_ s) ∧ S = []) := by
  refine Ctr_of_X (N := 72) Try.func42 rfl (by simp) rfl ?_
  intro w0 D0
  refine X_seq ?_
  refine X_region ?_
  refine XL_box .no rfl rfl rfl (fun b1 => ?_)
  refine XL_box .no rfl rfl rfl (fun b2 => ?_)
  refine XL_alloc .no zero_78 rfl (fun b3 => ?_)
  refine XL_det .no (D_pure rfl) rfl ?_
  refine XL_then ?_
  refine X_seq ?_
  refine X_seq ?_
  refine X_region ?_
  refine XL_det .no (D_fld rfl fld_78_0 (o' := 0) rfl) rfl ?_
  refine XL_det .no (D_ldo rfl (by repeat first | with_reducible exact .here _ _ | with_reducible apply Out.there) tk_3 (by rfl)) rfl ?_
  refine XL_det .no (D_pure rfl) rfl ?_
  refine XL_det .no (D_pure rfl) rfl ?_
  refine XL_split (t := 13) rfl (fun h1 => ?_) (fun h1 => ?_)
  · try simp only [decide_eq_true_eq, decide_eq_false_iff_not, Bool.not_eq_true', Bool.not_eq_false', beq_iff_eq, bne_iff_ne, beq_eq_false_iff_ne, bne_eq_false_iff_eq, Int.not_lt, Int.not_le, gt_iff_lt, ge_iff_le, ne_eq] at h1
    refine XL_skip 13 rfl rfl rfl rfl rfl ?_
    refine XL_skip 13 rfl rfl rfl rfl rfl ?_
    refine XL_skip 13 rfl rfl rfl rfl rfl ?_
    refine XL_det .no (D_pure rfl) rfl ?_
    refine XL_det .no (D_pure rfl) rfl ?_
    refine XL_skip 18 rfl rfl rfl rfl rfl ?_
    refine XL_skip 18 rfl rfl rfl rfl rfl ?_
    refine XL_skip 18 rfl rfl rfl rfl rfl ?_
    refine XL_skip 18 rfl rfl rfl rfl rfl ?_
    refine XL_skip 18 rfl rfl rfl rfl rfl ?_
    refine XL_skip 18 rfl rfl rfl rfl rfl ?_
    refine XL_det .no (D_pure rfl) rfl ?_
    refine XL_det .no (D_pure rfl) rfl ?_
    refine XL_skip 26 rfl rfl rfl rfl rfl ?_
    refine XL_skip 26 rfl rfl rfl rfl rfl ?_
    refine XL_skip 26 rfl rfl rfl rfl rfl ?_
    refine XL_skip 26 rfl rfl rfl rfl rfl ?_
    refine XL_det .no (D_pure rfl) rfl ?_
    refine XL_det .no (D_pure rfl) rfl ?_
    refine XL_skip 32 rfl rfl rfl rfl rfl ?_
    refine XL_skip 32 rfl rfl rfl rfl rfl ?_
    refine XL_skip 32 rfl rfl rfl rfl rfl ?_
    refine XL_skip 32 rfl rfl rfl rfl rfl ?_
    refine XL_det .no (D_pure rfl) rfl ?_
    refine XL_det .no (D_pure rfl) rfl ?_
    refine XL_skip 38 rfl rfl rfl rfl rfl ?_
    refine XL_skip 38 rfl rfl rfl rfl rfl ?_
    refine XL_skip 38 rfl rfl rfl rfl rfl ?_
    refine XL_skip 38 rfl rfl rfl rfl rfl ?_
    refine XL_skip 38 rfl rfl rfl rfl rfl ?_
    refine XL_det .no (D_pure rfl) rfl ?_
    refine XL_then ?_
    refine X_cond_t rfl rfl ?_
    refine X_seq ?_
    refine X_region ?_
    refine XL_det .no (D_zero zero_78 zk_78) rfl ?_
    refine XL_efd .no (F_stw rfl rfl rfl (by repeat first | with_reducible exact .here _ _ | with_reducible apply Out.there) tk_78 rfl rfl) ?_
    refine XL_det .no (D_pure rfl) rfl ?_
    refine XL_then ?_
    refine X_ret ?_
    refine thenX_ret ?_
    refine ret_ok (.nil _) (res_celltmp rfl rfl (by repeat first | with_reducible exact .here _ _ | with_reducible apply Out.there) tk_78 (by rfl) rfl) ?_
    exact ⟨_, ⟨by rw [cutS_o (by omega)]; rfl, rfl⟩, _, (by repeat first | with_reducible exact .nil _ | with_reducible exact .here _ _ | with_reducible exact Take.self _ | with_reducible apply Take.cons | with_reducible apply Out.there | with_reducible apply Take.skip)⟩
  · try simp only [decide_eq_true_eq, decide_eq_false_iff_not, Bool.not_eq_true', Bool.not_eq_false', beq_iff_eq, bne_iff_ne, beq_eq_false_iff_ne, bne_eq_false_iff_eq, Int.not_lt, Int.not_le, gt_iff_lt, ge_iff_le, ne_eq] at h1
    refine XL_det (.yes 13 rfl rfl rfl) (D_fld rfl fld_78_0 (o' := 0) rfl) rfl ?_
    refine XL_det (.yes 13 rfl rfl rfl) (D_ldo rfl (by repeat first | with_reducible exact .here _ _ | with_reducible apply Out.there) tk_3 (by rfl)) rfl ?_
    refine XL_det (.yes 13 rfl rfl rfl) (D_pure rfl) rfl ?_
    refine XL_det .no (D_pure rfl) rfl ?_
    refine XL_det .no (D_pure rfl) rfl ?_
    refine XL_split (t := 18) rfl (fun h2 => ?_) (fun h2 => ?_)
    · try simp only [decide_eq_true_eq, decide_eq_false_iff_not, Bool.not_eq_true', Bool.not_eq_false', beq_iff_eq, bne_iff_ne, beq_eq_false_iff_ne, bne_eq_false_iff_eq, Int.not_lt, Int.not_le, gt_iff_lt, ge_iff_le, ne_eq] at h2
      refine XL_skip 18 rfl rfl rfl rfl rfl ?_
      refine XL_skip 18 rfl rfl rfl rfl rfl ?_
      refine XL_skip 18 rfl rfl rfl rfl rfl ?_
      refine XL_skip 18 rfl rfl rfl rfl rfl ?_
      refine XL_skip 18 rfl rfl rfl rfl rfl ?_
      refine XL_skip 18 rfl rfl rfl rfl rfl ?_
      refine XL_det .no (D_pure rfl) rfl ?_
      refine XL_det .no (D_pure rfl) rfl ?_
      refine XL_skip 26 rfl rfl rfl rfl rfl ?_
      refine XL_skip 26 rfl rfl rfl rfl rfl ?_
      refine XL_skip 26 rfl rfl rfl rfl rfl ?_
      refine XL_skip 26 rfl rfl rfl rfl rfl ?_
      refine XL_det .no (D_pure rfl) rfl ?_
      refine XL_det .no (D_pure rfl) rfl ?_
      refine XL_skip 32 rfl rfl rfl rfl rfl ?_
      refine XL_skip 32 rfl rfl rfl rfl rfl ?_
      refine XL_skip 32 rfl rfl rfl rfl rfl ?_
      refine XL_skip 32 rfl rfl rfl rfl rfl ?_
      refine XL_det .no (D_pure rfl) rfl ?_
      refine XL_det .no (D_pure rfl) rfl ?_
      refine XL_skip 38 rfl rfl rfl rfl rfl ?_
      refine XL_skip 38 rfl rfl rfl rfl rfl ?_
      refine XL_skip 38 rfl rfl rfl rfl rfl ?_
      refine XL_skip 38 rfl rfl rfl rfl rfl ?_
      refine XL_skip 38 rfl rfl rfl rfl rfl ?_
      refine XL_det .no (D_pure rfl) rfl ?_
      refine XL_then ?_
      refine X_cond_t rfl rfl ?_
      refine X_seq ?_
      refine X_region ?_
      refine XL_det .no (D_zero zero_78 zk_78) rfl ?_
      refine XL_efd .no (F_stw rfl rfl rfl (by repeat first | with_reducible exact .here _ _ | with_reducible apply Out.there) tk_78 rfl rfl) ?_
      refine XL_det .no (D_pure rfl) rfl ?_
      refine XL_then ?_
      refine X_ret ?_
      refine thenX_ret ?_
      refine ret_ok (.nil _) (res_celltmp rfl rfl (by repeat first | with_reducible exact .here _ _ | with_reducible apply Out.there) tk_78 (by rfl) rfl) ?_
      exact ⟨_, ⟨by rw [cutS_o (by omega)]; rfl, rfl⟩, _, (by repeat first | with_reducible exact .nil _ | with_reducible exact .here _ _ | with_reducible exact Take.self _ | with_reducible apply Take.cons | with_reducible apply Out.there | with_reducible apply Take.skip)⟩
    · try simp only [decide_eq_true_eq, decide_eq_false_iff_not, Bool.not_eq_true', Bool.not_eq_false', beq_iff_eq, bne_iff_ne, beq_eq_false_iff_ne, bne_eq_false_iff_eq, Int.not_lt, Int.not_le, gt_iff_lt, ge_iff_le, ne_eq] at h2
      obtain ⟨j, hj⟩ := Int.eq_ofNat_of_zero_le (a := s.1) (by omega)
      have hT := hT j (by omega)
      refine XL_det (.yes 18 rfl rfl rfl) (D_fld rfl fld_78_0 (o' := 0) rfl) rfl ?_
      refine XL_det (.yes 18 rfl rfl rfl) (D_ldo rfl (by repeat first | with_reducible exact .here _ _ | with_reducible apply Out.there) tk_3 (by rfl)) rfl ?_
      refine XL_det (.yes 18 rfl rfl rfl) (D_fld rfl fld_58_3 (o' := 3) rfl) rfl ?_
      refine XL_det (.yes 18 rfl rfl rfl) (D_idxA rfl rfl arr_56 hj (by omega) rfl) rfl ?_
      refine XL_det (.yes 18 rfl rfl rfl) (D_ldo rfl (by repeat first | with_reducible exact .here _ _ | with_reducible apply Out.there) tk_3 (encT_get (by omega))) rfl ?_
      refine XL_det (.yes 18 rfl rfl rfl) (D_pure rfl) rfl ?_
      refine XL_det .no (D_pure rfl) rfl ?_
      refine XL_det .no (D_pure rfl) rfl ?_
      refine XL_split (t := 26) rfl (fun h3 => ?_) (fun h3 => ?_)
      · try simp only [decide_eq_true_eq, decide_eq_false_iff_not, Bool.not_eq_true', Bool.not_eq_false', beq_iff_eq, bne_iff_ne, beq_eq_false_iff_ne, bne_eq_false_iff_eq, Int.not_lt, Int.not_le, gt_iff_lt, ge_iff_le, ne_eq] at h3
        refine XL_skip 26 rfl rfl rfl rfl rfl ?_
        refine XL_skip 26 rfl rfl rfl rfl rfl ?_
        refine XL_skip 26 rfl rfl rfl rfl rfl ?_
        refine XL_skip 26 rfl rfl rfl rfl rfl ?_
        refine XL_det .no (D_pure rfl) rfl ?_
        refine XL_det .no (D_pure rfl) rfl ?_
        refine XL_skip 32 rfl rfl rfl rfl rfl ?_
        refine XL_skip 32 rfl rfl rfl rfl rfl ?_
        refine XL_skip 32 rfl rfl rfl rfl rfl ?_
        refine XL_skip 32 rfl rfl rfl rfl rfl ?_
        refine XL_det .no (D_pure rfl) rfl ?_
        refine XL_det .no (D_pure rfl) rfl ?_
        refine XL_skip 38 rfl rfl rfl rfl rfl ?_
        refine XL_skip 38 rfl rfl rfl rfl rfl ?_
        refine XL_skip 38 rfl rfl rfl rfl rfl ?_
        refine XL_skip 38 rfl rfl rfl rfl rfl ?_
        refine XL_skip 38 rfl rfl rfl rfl rfl ?_
        refine XL_det .no (D_pure rfl) rfl ?_
        refine XL_then ?_
        refine X_cond_t rfl rfl ?_
        refine X_seq ?_
        refine X_region ?_
        refine XL_det .no (D_zero zero_78 zk_78) rfl ?_
        refine XL_efd .no (F_stw rfl rfl rfl (by repeat first | with_reducible exact .here _ _ | with_reducible apply Out.there) tk_78 rfl rfl) ?_
        refine XL_det .no (D_pure rfl) rfl ?_
        refine XL_then ?_
        refine X_ret ?_
        refine thenX_ret ?_
        refine ret_ok (.nil _) (res_celltmp rfl rfl (by repeat first | with_reducible exact .here _ _ | with_reducible apply Out.there) tk_78 (by rfl) rfl) ?_
        exact ⟨_, ⟨by rw [cutS_n hj (by omega)]; rfl, rfl⟩, _, (by repeat first | with_reducible exact .nil _ | with_reducible exact .here _ _ | with_reducible exact Take.self _ | with_reducible apply Take.cons | with_reducible apply Out.there | with_reducible apply Take.skip)⟩
      · try simp only [decide_eq_true_eq, decide_eq_false_iff_not, Bool.not_eq_true', Bool.not_eq_false', beq_iff_eq, bne_iff_ne, beq_eq_false_iff_ne, bne_eq_false_iff_eq, Int.not_lt, Int.not_le, gt_iff_lt, ge_iff_le, ne_eq] at h3
        refine XL_det (.yes 26 rfl rfl rfl) (D_fld rfl fld_78_1 (o' := 1) rfl) rfl ?_
        refine XL_det (.yes 26 rfl rfl rfl) (D_ldo rfl (by repeat first | with_reducible exact .here _ _ | with_reducible apply Out.there) tk_3 (by rfl)) rfl ?_
        refine XL_det (.yes 26 rfl rfl rfl) (D_pure rfl) rfl ?_
        refine XL_det (.yes 26 rfl rfl rfl) (D_pure rfl) rfl ?_
        refine XL_det .no (D_pure rfl) rfl ?_
        refine XL_det .no (D_pure rfl) rfl ?_
        refine XL_split (t := 32) rfl (fun h4 => ?_) (fun h4 => ?_)
        · try simp only [decide_eq_true_eq, decide_eq_false_iff_not, Bool.not_eq_true', Bool.not_eq_false', beq_iff_eq, bne_iff_ne, beq_eq_false_iff_ne, bne_eq_false_iff_eq, Int.not_lt, Int.not_le, gt_iff_lt, ge_iff_le, ne_eq] at h4
          refine XL_skip 32 rfl rfl rfl rfl rfl ?_
          refine XL_skip 32 rfl rfl rfl rfl rfl ?_
          refine XL_skip 32 rfl rfl rfl rfl rfl ?_
          refine XL_skip 32 rfl rfl rfl rfl rfl ?_
          refine XL_det .no (D_pure rfl) rfl ?_
          refine XL_det .no (D_pure rfl) rfl ?_
          refine XL_skip 38 rfl rfl rfl rfl rfl ?_
          refine XL_skip 38 rfl rfl rfl rfl rfl ?_
          refine XL_skip 38 rfl rfl rfl rfl rfl ?_
          refine XL_skip 38 rfl rfl rfl rfl rfl ?_
          refine XL_skip 38 rfl rfl rfl rfl rfl ?_
          refine XL_det .no (D_pure rfl) rfl ?_
          refine XL_then ?_
          refine X_cond_t rfl rfl ?_
          refine X_seq ?_
          refine X_region ?_
          refine XL_det .no (D_zero zero_78 zk_78) rfl ?_
          refine XL_efd .no (F_stw rfl rfl rfl (by repeat first | with_reducible exact .here _ _ | with_reducible apply Out.there) tk_78 rfl rfl) ?_
          refine XL_det .no (D_pure rfl) rfl ?_
          refine XL_then ?_
          refine X_ret ?_
          refine thenX_ret ?_
          refine ret_ok (.nil _) (res_celltmp rfl rfl (by repeat first | with_reducible exact .here _ _ | with_reducible apply Out.there) tk_78 (by rfl) rfl) ?_
          exact ⟨_, ⟨by rw [cutS_n hj (by omega)]; rfl, rfl⟩, _, (by repeat first | with_reducible exact .nil _ | with_reducible exact .here _ _ | with_reducible exact Take.self _ | with_reducible apply Take.cons | with_reducible apply Out.there | with_reducible apply Take.skip)⟩
        · try simp only [decide_eq_true_eq, decide_eq_false_iff_not, Bool.not_eq_true', Bool.not_eq_false', beq_iff_eq, bne_iff_ne, beq_eq_false_iff_ne, bne_eq_false_iff_eq, Int.not_lt, Int.not_le, gt_iff_lt, ge_iff_le, ne_eq] at h4
          refine XL_det (.yes 32 rfl rfl rfl) (D_fld rfl fld_78_1 (o' := 1) rfl) rfl ?_
          refine XL_det (.yes 32 rfl rfl rfl) (D_ldo rfl (by repeat first | with_reducible exact .here _ _ | with_reducible apply Out.there) tk_3 (by rfl)) rfl ?_
          refine XL_det (.yes 32 rfl rfl rfl) (D_pure rfl) rfl ?_
          refine XL_det (.yes 32 rfl rfl rfl) (D_pure rfl) rfl ?_
          refine XL_det .no (D_pure rfl) rfl ?_
          refine XL_det .no (D_pure rfl) rfl ?_
          refine XL_split (t := 38) rfl (fun h5 => ?_) (fun h5 => ?_)
          · try simp only [decide_eq_true_eq, decide_eq_false_iff_not, Bool.not_eq_true', Bool.not_eq_false', beq_iff_eq, bne_iff_ne, beq_eq_false_iff_ne, bne_eq_false_iff_eq, Int.not_lt, Int.not_le, gt_iff_lt, ge_iff_le, ne_eq] at h5
            refine XL_skip 38 rfl rfl rfl rfl rfl ?_
            refine XL_skip 38 rfl rfl rfl rfl rfl ?_
            refine XL_skip 38 rfl rfl rfl rfl rfl ?_
            refine XL_skip 38 rfl rfl rfl rfl rfl ?_
            refine XL_skip 38 rfl rfl rfl rfl rfl ?_
            refine XL_det .no (D_pure rfl) rfl ?_
            refine XL_then ?_
            refine X_cond_t rfl rfl ?_
            refine X_seq ?_
            refine X_region ?_
            refine XL_det .no (D_zero zero_78 zk_78) rfl ?_
            refine XL_efd .no (F_stw rfl rfl rfl (by repeat first | with_reducible exact .here _ _ | with_reducible apply Out.there) tk_78 rfl rfl) ?_
            refine XL_det .no (D_pure rfl) rfl ?_
            refine XL_then ?_
            refine X_ret ?_
            refine thenX_ret ?_
            refine ret_ok (.nil _) (res_celltmp rfl rfl (by repeat first | with_reducible exact .here _ _ | with_reducible apply Out.there) tk_78 (by rfl) rfl) ?_
            exact ⟨_, ⟨by rw [cutS_n hj (by omega)]; rfl, rfl⟩, _, (by repeat first | with_reducible exact .nil _ | with_reducible exact .here _ _ | with_reducible exact Take.self _ | with_reducible apply Take.cons | with_reducible apply Out.there | with_reducible apply Take.skip)⟩
          · try simp only [decide_eq_true_eq, decide_eq_false_iff_not, Bool.not_eq_true', Bool.not_eq_false', beq_iff_eq, bne_iff_ne, beq_eq_false_iff_ne, bne_eq_false_iff_eq, Int.not_lt, Int.not_le, gt_iff_lt, ge_iff_le, ne_eq] at h5
            refine XL_det (.yes 38 rfl rfl rfl) (D_fld rfl fld_78_2 (o' := 2) rfl) rfl ?_
            refine XL_det (.yes 38 rfl rfl rfl) (D_ldo rfl (by repeat first | with_reducible exact .here _ _ | with_reducible apply Out.there) tk_3 (by rfl)) rfl ?_
            refine XL_det (.yes 38 rfl rfl rfl) (D_fld rfl fld_78_1 (o' := 1) rfl) rfl ?_
            refine XL_det (.yes 38 rfl rfl rfl) (D_ldo rfl (by repeat first | with_reducible exact .here _ _ | with_reducible apply Out.there) tk_3 (by rfl)) rfl ?_
            refine XL_det (.yes 38 rfl rfl rfl) (D_pure rfl) rfl ?_
            refine XL_det .no (D_pure rfl) rfl ?_
            refine XL_then ?_
            refine X_cond rfl (fun h6 => ?_) (fun h6 => ?_)
            · try simp only [decide_eq_true_eq, decide_eq_false_iff_not, Bool.not_eq_true', Bool.not_eq_false', beq_iff_eq, bne_iff_ne, beq_eq_false_iff_ne, bne_eq_false_iff_eq, Int.not_lt, Int.not_le, gt_iff_lt, ge_iff_le, ne_eq] at h6
              refine X_seq ?_
              refine X_region ?_
              refine XL_det .no (D_zero zero_78 zk_78) rfl ?_
              refine XL_efd .no (F_stw rfl rfl rfl (by repeat first | with_reducible exact .here _ _ | with_reducible apply Out.there) tk_78 rfl rfl) ?_
              refine XL_det .no (D_pure rfl) rfl ?_
              refine XL_then ?_
              refine X_ret ?_
              refine thenX_ret ?_
              refine ret_ok (.nil _) (res_celltmp rfl rfl (by repeat first | with_reducible exact .here _ _ | with_reducible apply Out.there) tk_78 (by rfl) rfl) ?_
              exact ⟨_, ⟨by rw [cutS_n hj (by omega)]; rfl, rfl⟩, _, (by repeat first | with_reducible exact .nil _ | with_reducible exact .here _ _ | with_reducible exact Take.self _ | with_reducible apply Take.cons | with_reducible apply Out.there | with_reducible apply Take.skip)⟩
            · try simp only [decide_eq_true_eq, decide_eq_false_iff_not, Bool.not_eq_true', Bool.not_eq_false', beq_iff_eq, bne_iff_ne, beq_eq_false_iff_ne, bne_eq_false_iff_eq, Int.not_lt, Int.not_le, gt_iff_lt, ge_iff_le, ne_eq] at h6
              refine X_skip ?_
              refine thenX_normal ?_
              refine X_seq ?_
              refine X_region ?_
              refine XL_det .no (D_fld rfl fld_78_2 (o' := 2) rfl) rfl ?_
              refine XL_det .no (D_ldo rfl (by repeat first | with_reducible exact .here _ _ | with_reducible apply Out.there) tk_3 (by rfl)) rfl ?_
              refine XL_det .no (D_pure rfl) rfl ?_
              refine XL_det .no (D_min rfl rfl) rfl ?_
              refine XL_det .no (D_fld rfl fld_78_2 (o' := 2) rfl) rfl ?_
              refine XL_efd .no (F_stl rfl rfl rfl (by repeat first | with_reducible exact .here _ _ | with_reducible apply Out.there) tk_3 (by repeat first | exact .zero _ _ _ | apply SetL.succ)) ?_
              refine XL_then ?_
              refine X_seq ?_
              refine X_seq ?_
              refine X_draw _ mixed (Take.self _) ?_
              refine XA_det 0 rfl (by kernel_rfl) (by kernel_rfl) (by kernel_rfl) (by kernel_rfl) (fun _ _ _ _ h => h) .no (D_fld rfl fld_78_2 (o' := 2) rfl) rfl ?_
              refine XA_det 1 rfl (by kernel_rfl) (by kernel_rfl) (by kernel_rfl) (by kernel_rfl) (fun _ _ _ _ h => h) .no (D_ldo rfl (by repeat first | with_reducible exact .here _ _ | with_reducible apply Out.there) tk_3 (by rfl)) rfl ?_
              refine XA_det 2 rfl (by kernel_rfl) (by kernel_rfl) (by kernel_rfl) (by kernel_rfl) (fun _ _ _ _ h => h) .no (D_fld rfl fld_78_1 (o' := 1) rfl) rfl ?_
              refine XA_det 3 rfl (by kernel_rfl) (by kernel_rfl) (by kernel_rfl) (by kernel_rfl) (fun _ _ _ _ h => h) .no (D_ldo rfl (by repeat first | with_reducible exact .here _ _ | with_reducible apply Out.there) tk_3 (by rfl)) rfl ?_
              refine XA_det 4 rfl (by kernel_rfl) (by kernel_rfl) (by kernel_rfl) (by kernel_rfl) (fun _ _ _ _ h => h) .no (D_sub rfl rfl (by omega) (by omega)) rfl ?_
              refine XA_det 5 rfl (by kernel_rfl) (by kernel_rfl) (by kernel_rfl) (by kernel_rfl) (fun _ _ _ _ h => h) .no (D_fld rfl fld_78_0 (o' := 0) rfl) rfl ?_
              refine XA_det 6 rfl (by kernel_rfl) (by kernel_rfl) (by kernel_rfl) (by kernel_rfl) (fun _ _ _ _ h => h) .no (D_ldo rfl (by repeat first | with_reducible exact .here _ _ | with_reducible apply Out.there) tk_3 (by rfl)) rfl ?_
              refine XA_det 7 rfl (by kernel_rfl) (by kernel_rfl) (by kernel_rfl) (by kernel_rfl) (fun _ _ _ _ h => h) .no (D_fld rfl fld_58_3 (o' := 3) rfl) rfl ?_
              refine XA_det 8 rfl (by kernel_rfl) (by kernel_rfl) (by kernel_rfl) (by kernel_rfl) (fun _ _ _ _ h => h) .no (D_idxA rfl rfl arr_56 hj (by omega) rfl) rfl ?_
              refine XA_det 9 rfl (by kernel_rfl) (by kernel_rfl) (by kernel_rfl) (by kernel_rfl) (fun _ _ _ _ h => h) .no (D_ldo rfl (by repeat first | with_reducible exact .here _ _ | with_reducible apply Out.there) tk_3 (encT_get (by omega))) rfl ?_
              refine XA_det 10 rfl (by kernel_rfl) (by kernel_rfl) (by kernel_rfl) (by kernel_rfl) (fun _ _ _ _ h => h) .no (D_pure rfl) rfl ?_
              refine XA_done (by kernel_rfl) ?_
              try simp only [List.cons_append, List.nil_append, List.append_nil]
              refine thenX_normal ?_
              refine X_cond rfl (fun h7 => ?_) (fun h7 => ?_)
              · try simp only [decide_eq_true_eq, decide_eq_false_iff_not, Bool.not_eq_true', Bool.not_eq_false', beq_iff_eq, bne_iff_ne, beq_eq_false_iff_ne, bne_eq_false_iff_eq, Int.not_lt, Int.not_le, gt_iff_lt, ge_iff_le, ne_eq] at h7
                refine X_draw _ mixed (Take.self _) ?_
                refine XA_det 0 rfl (by kernel_rfl) (by kernel_rfl) (by kernel_rfl) (by kernel_rfl) (fun _ _ _ _ h => h) .no (D_fld rfl fld_78_1 (o' := 1) rfl) rfl ?_
                refine XA_det 1 rfl (by kernel_rfl) (by kernel_rfl) (by kernel_rfl) (by kernel_rfl) (fun _ _ _ _ h => h) .no (D_ldo rfl (by repeat first | with_reducible exact .here _ _ | with_reducible apply Out.there) tk_3 (by rfl)) rfl ?_
                refine XA_det 2 rfl (by kernel_rfl) (by kernel_rfl) (by kernel_rfl) (by kernel_rfl) (fun _ _ _ _ h => h) .no (D_fld rfl fld_78_0 (o' := 0) rfl) rfl ?_
                refine XA_det 3 rfl (by kernel_rfl) (by kernel_rfl) (by kernel_rfl) (by kernel_rfl) (fun _ _ _ _ h => h) .no (D_ldo rfl (by repeat first | with_reducible exact .here _ _ | with_reducible apply Out.there) tk_3 (by rfl)) rfl ?_
                refine XA_det 4 rfl (by kernel_rfl) (by kernel_rfl) (by kernel_rfl) (by kernel_rfl) (fun _ _ _ _ h => h) .no (D_fld rfl fld_58_3 (o' := 3) rfl) rfl ?_
                refine XA_det 5 rfl (by kernel_rfl) (by kernel_rfl) (by kernel_rfl) (by kernel_rfl) (fun _ _ _ _ h => h) .no (D_idxA rfl rfl arr_56 hj (by omega) rfl) rfl ?_
                refine XA_det 6 rfl (by kernel_rfl) (by kernel_rfl) (by kernel_rfl) (by kernel_rfl) (fun _ _ _ _ h => h) .no (D_ldo rfl (by repeat first | with_reducible exact .here _ _ | with_reducible apply Out.there) tk_3 (encT_get (by omega))) rfl ?_
                refine XA_det 7 rfl (by kernel_rfl) (by kernel_rfl) (by kernel_rfl) (by kernel_rfl) (fun _ _ _ _ h => h) .no (D_add rfl rfl (by omega) (by omega)) rfl ?_
                refine XA_det 8 rfl (by kernel_rfl) (by kernel_rfl) (by kernel_rfl) (by kernel_rfl) (fun _ _ _ _ h => h) .no (D_fld rfl fld_78_2 (o' := 2) rfl) rfl ?_
                refine XA_one 9 (by kernel_rfl) ?_
                refine XO_efd rfl .no (by repeat first | with_reducible exact .nil _ | with_reducible apply App.cons) (F_stl rfl rfl rfl (by repeat first | with_reducible exact .here _ _ | with_reducible apply Out.there) tk_3 (by repeat first | exact .zero _ _ _ | apply SetL.succ)) (by kernel_rfl) ?_
                refine XA_done (by kernel_rfl) ?_
                try simp only [List.cons_append, List.nil_append, List.append_nil]
                refine thenX_normal ?_
                refine X_seq ?_
                refine X_region ?_
                refine XL_det .no (D_ldso rfl (by repeat first | with_reducible exact .here _ _ | with_reducible apply Out.there) tk_78 rfl (by rfl)) rfl ?_
                refine XL_efd .no (F_stw rfl rfl rfl (by repeat first | with_reducible exact .here _ _ | with_reducible apply Out.there) tk_78 rfl rfl) ?_
                refine XL_det .no (D_pure rfl) rfl ?_
                refine XL_then ?_
                refine X_ret ?_
                refine ret_ok (.nil _) (res_celltmp rfl rfl (by repeat first | with_reducible exact .here _ _ | with_reducible apply Out.there) tk_78 (by rfl) rfl) ?_
                exact ⟨_, ⟨by rw [cutS_s hj (by omega) (by omega), if_pos (by omega)]; rfl, rfl⟩, _, (by repeat first | with_reducible exact .nil _ | with_reducible exact .here _ _ | with_reducible exact Take.self _ | with_reducible apply Take.cons | with_reducible apply Out.there | with_reducible apply Take.skip)⟩
              · try simp only [decide_eq_true_eq, decide_eq_false_iff_not, Bool.not_eq_true', Bool.not_eq_false', beq_iff_eq, bne_iff_ne, beq_eq_false_iff_ne, bne_eq_false_iff_eq, Int.not_lt, Int.not_le, gt_iff_lt, ge_iff_le, ne_eq] at h7
                refine X_skip ?_
                refine thenX_normal ?_
                refine X_seq ?_
                refine X_region ?_
                refine XL_det .no (D_ldso rfl (by repeat first | with_reducible exact .here _ _ | with_reducible apply Out.there) tk_78 rfl (by rfl)) rfl ?_
                refine XL_efd .no (F_stw rfl rfl rfl (by repeat first | with_reducible exact .here _ _ | with_reducible apply Out.there) tk_78 rfl rfl) ?_
                refine XL_det .no (D_pure rfl) rfl ?_
                refine XL_then ?_
                refine X_ret ?_
                refine ret_ok (.nil _) (res_celltmp rfl rfl (by repeat first | with_reducible exact .here _ _ | with_reducible apply Out.there) tk_78 (by rfl) rfl) ?_
                exact ⟨_, ⟨by rw [cutS_s hj (by omega) (by omega), if_neg (by omega)]; rfl, rfl⟩, _, (by repeat first | with_reducible exact .nil _ | with_reducible exact .here _ _ | with_reducible exact Take.self _ | with_reducible apply Take.cons | with_reducible apply Out.there | with_reducible apply Take.skip)⟩

theorem rleast (a b : Int) : Ctr Try.prog B 39 [.int .i64 a, .int .i64 b] [] (fun v S => v = .int .i64 (min a b) ∧ S = []) := by
  refine Ctr_of_X (N := 10) Try.func39 rfl (by simp) rfl ?_
  intro w0 D0
  refine X_seq ?_
  refine X_region ?_
  refine XL_det .no (D_pure rfl) rfl ?_
  refine XL_then ?_
  refine X_seq ?_
  refine X_seq ?_
  refine X_region ?_
  refine XL_det .no (D_pure rfl) rfl ?_
  refine XL_det .no (D_pure rfl) rfl ?_
  refine XL_det .no (D_pure rfl) rfl ?_
  refine XL_then ?_
  refine X_cond rfl (fun h1 => ?_) (fun h1 => ?_)
  · try simp only [decide_eq_true_eq, decide_eq_false_iff_not, Bool.not_eq_true', Bool.not_eq_false', beq_iff_eq, bne_iff_ne, beq_eq_false_iff_ne, bne_eq_false_iff_eq, Int.not_lt, Int.not_le, gt_iff_lt, ge_iff_le, ne_eq] at h1
    refine X_seq ?_
    refine X_region ?_
    refine XL_det .no (D_pure rfl) rfl ?_
    refine XL_det .no (D_pure rfl) rfl ?_
    refine XL_then ?_
    refine X_ret ?_
    refine thenX_ret ?_
    refine ret_ok (.nil _) (res_tmp rfl rfl) ?_
    exact ⟨_, ⟨by rw [Int.min_eq_left (by omega)], rfl⟩, _, (by repeat first | with_reducible exact .nil _ | with_reducible exact .here _ _ | with_reducible exact Take.self _ | with_reducible apply Take.cons | with_reducible apply Out.there | with_reducible apply Take.skip)⟩
  · try simp only [decide_eq_true_eq, decide_eq_false_iff_not, Bool.not_eq_true', Bool.not_eq_false', beq_iff_eq, bne_iff_ne, beq_eq_false_iff_ne, bne_eq_false_iff_eq, Int.not_lt, Int.not_le, gt_iff_lt, ge_iff_le, ne_eq] at h1
    refine X_skip ?_
    refine thenX_normal ?_
    refine X_seq ?_
    refine X_region ?_
    refine XL_det .no (D_pure rfl) rfl ?_
    refine XL_det .no (D_pure rfl) rfl ?_
    refine XL_then ?_
    refine X_ret ?_
    refine ret_ok (.nil _) (res_tmp rfl rfl) ?_
    exact ⟨_, ⟨by rw [Int.min_eq_right (by omega)], rfl⟩, _, (by repeat first | with_reducible exact .nil _ | with_reducible exact .here _ _ | with_reducible exact Take.self _ | with_reducible apply Take.cons | with_reducible apply Out.there | with_reducible apply Take.skip)⟩

theorem jright (T : Nat → Int) : Ctr Try.prog B 20 [tV T] [] (fun v S => v = .bool (rightB T) ∧ S = []) := by
  refine Ctr_of_X (N := 13) Try.func20 rfl (by simp) rfl ?_
  intro w0 D0
  refine X_seq ?_
  refine X_region ?_
  refine XL_box .no rfl rfl rfl (fun b1 => ?_)
  refine XL_det .no (D_pure rfl) rfl ?_
  refine XL_then ?_
  refine X_seq ?_
  refine X_seq ?_
  refine X_region ?_
  refine XL_det .no (D_pure rfl) rfl ?_
  refine XL_then ?_
  refine X_block ?_
  refine X_loop (α := Nat) (fun i => i ≤ 8 ∧ ∀ j, j < i → 0 ≤ T (3 + j)) (fun i => [(3, .int .i64 (i : Int)), (1, .pointer (some ⟨b1, 0, none⟩))]) (fun i => [blk b1 (encT T) 58]) (fun i => 8 - i) 0 ?_ (by refine ⟨?_, ?_, trivial⟩ <;> rfl) (by repeat first | with_reducible exact .nil _ | with_reducible exact .here _ _ | with_reducible exact Take.self _ | with_reducible apply Take.cons | with_reducible apply Out.there | with_reducible apply Take.skip) ?_
  · exact ⟨by decide, fun j hj => by omega⟩
  · rintro i ⟨hi, hq⟩
    refine X_seq ?_
    refine X_seq ?_
    refine X_region ?_
    refine XL_det .no (D_pure rfl) rfl ?_
    refine XL_det .no (D_pure rfl) rfl ?_
    refine XL_then ?_
    refine X_cond rfl (fun h1 => ?_) (fun h1 => ?_)
    · try simp only [decide_eq_true_eq, decide_eq_false_iff_not, Bool.not_eq_true', Bool.not_eq_false', beq_iff_eq, bne_iff_ne, beq_eq_false_iff_ne, bne_eq_false_iff_eq, Int.not_lt, Int.not_le, gt_iff_lt, ge_iff_le, ne_eq] at h1
      refine X_skip ?_
      refine thenX_normal ?_
      refine X_seq ?_
      refine X_block ?_
      refine X_seq ?_
      refine X_region ?_
      refine XL_det .no (D_pure rfl) rfl ?_
      refine XL_det .no (D_fld rfl fld_58_3 (o' := 3) rfl) rfl ?_
      refine XL_det .no (D_idxA rfl rfl arr_56 rfl (by omega) rfl) rfl ?_
      refine XL_det .no (D_ldo rfl (by repeat first | with_reducible exact .here _ _ | with_reducible apply Out.there) tk_3 (encT_get (by omega))) rfl ?_
      refine XL_det .no (D_pure rfl) rfl ?_
      refine XL_then ?_
      refine X_cond rfl (fun h2 => ?_) (fun h2 => ?_)
      · try simp only [decide_eq_true_eq, decide_eq_false_iff_not, Bool.not_eq_true', Bool.not_eq_false', beq_iff_eq, bne_iff_ne, beq_eq_false_iff_ne, bne_eq_false_iff_eq, Int.not_lt, Int.not_le, gt_iff_lt, ge_iff_le, ne_eq] at h2
        refine X_seq ?_
        refine X_region ?_
        refine XL_det .no (D_pure rfl) rfl ?_
        refine XL_then ?_
        refine X_ret ?_
        refine inBlk_ret ?_
        refine thenX_ret ?_
        refine loopQ_ret ?_
        refine inBlk_ret ?_
        refine thenX_ret ?_
        refine ret_ok (.nil _) (res_tmp rfl rfl) ?_
        exact ⟨_, ⟨by rw [rightB_f (j := i) (by omega) (by omega)], rfl⟩, _, (by repeat first | with_reducible exact .nil _ | with_reducible exact .here _ _ | with_reducible exact Take.self _ | with_reducible apply Take.cons | with_reducible apply Out.there | with_reducible apply Take.skip)⟩
      · try simp only [decide_eq_true_eq, decide_eq_false_iff_not, Bool.not_eq_true', Bool.not_eq_false', beq_iff_eq, bne_iff_ne, beq_eq_false_iff_ne, bne_eq_false_iff_eq, Int.not_lt, Int.not_le, gt_iff_lt, ge_iff_le, ne_eq] at h2
        refine X_skip ?_
        refine inBlk_normal ?_
        refine thenX_normal ?_
        refine X_region ?_
        refine XL_det .no (D_pure rfl) rfl ?_
        refine XL_det .no (D_add rfl rfl (by omega) (by omega)) rfl ?_
        refine XL_det .no (D_pure rfl) rfl ?_
        refine XL_nil ?_
        refine loopQ_next (i + 1) ?_ ?_ ?_ ?_
        · exact ⟨by omega, fun j hj => by rcases Nat.lt_succ_iff_lt_or_eq.1 hj with h | rfl <;> first | exact hq _ h | omega⟩
        · omega
        · refine ⟨?_, ?_, trivial⟩ <;> rfl
        · exact ⟨_, (by repeat first | with_reducible exact .nil _ | with_reducible exact .here _ _ | with_reducible exact Take.self _ | with_reducible apply Take.cons | with_reducible apply Out.there | with_reducible apply Take.skip)⟩
    · try simp only [decide_eq_true_eq, decide_eq_false_iff_not, Bool.not_eq_true', Bool.not_eq_false', beq_iff_eq, bne_iff_ne, beq_eq_false_iff_ne, bne_eq_false_iff_eq, Int.not_lt, Int.not_le, gt_iff_lt, ge_iff_le, ne_eq] at h1
      refine X_exit ?_
      refine thenX_exit ?_
      refine loopQ_exit ?_
      refine inBlk_here ?_
      refine thenX_normal ?_
      refine X_seq ?_
      refine X_region ?_
      refine XL_det .no (D_pure rfl) rfl ?_
      refine XL_then ?_
      refine X_ret ?_
      refine ret_ok (.nil _) (res_tmp rfl rfl) ?_
      exact ⟨_, ⟨by rw [rightB_t (fun j hj => hq j (by omega))], rfl⟩, _, (by repeat first | with_reducible exact .nil _ | with_reducible exact .here _ _ | with_reducible exact Take.self _ | with_reducible apply Take.cons | with_reducible apply Out.there | with_reducible apply Take.skip)⟩


theorem sec_eq (x y : Sec) : cellsEq (encS x) (encS y) = decide (x = y) := by
  obtain ⟨a, b, c⟩ := x; obtain ⟨d, e, f⟩ := y
  simp only [cellsEq, veq, Bool.and_true, Prod.mk.injEq]
  rw [Bool.eq_iff_iff]; simp
theorem take_s {α : Type} {a b : List α} {i : Nat} {x y : α} (h : a.take i = b.take i) (hx : a[i]? = some x) (hy : b[i]? = some y) (e : x = y) : a.take (i + 1) = b.take (i + 1) := by
  rw [List.take_add_one, List.take_add_one, h, hx, hy, e]
theorem get_secs {L pre rest : List Sec} {c : Sec} {many : Nat} (h : L = pre ++ c :: rest) (hp : pre.length = many) : many < (L.map fun s => [secV s]).length ∧ (L.map fun s => [secV s]).getD many [] = [secV c] := by
  subst h hp; simp [List.getD]

theorem jrow {Ka Kb : Asrt B} (a b : Arr Sec) (ha : Rd Ka a.ad (a.l.flatMap encS)) (hb : Rd Kb b.ad (b.l.flatMap encS)) : Ctr Try.prog B 21 [.slice a.oad a.l.length a.c, .slice b.oad b.l.length b.c] [Ka, Kb] (fun v S => v = .bool (decide (a.l = b.l)) ∧ S = [Ka, Kb]) := by
  refine Ctr_of_X (N := 26) Try.func21 rfl (by simp) rfl ?_
  intro w0 D0
  refine X_seq ?_
  refine X_region ?_
  refine XL_det .no (D_pure rfl) rfl ?_
  refine XL_then ?_
  refine X_seq ?_
  refine X_seq ?_
  refine X_region ?_
  refine XL_det .no (D_pure rfl) rfl ?_
  refine XL_det .no (D_len rfl rfl slc_59) rfl ?_
  refine XL_det .no (D_pure rfl) rfl ?_
  refine XL_det .no (D_len rfl rfl slc_59) rfl ?_
  refine XL_det .no (D_pure rfl) rfl ?_
  refine XL_then ?_
  refine X_cond rfl (fun h1 => ?_) (fun h1 => ?_)
  · try simp only [decide_eq_true_eq, decide_eq_false_iff_not, Bool.not_eq_true', Bool.not_eq_false', beq_iff_eq, bne_iff_ne, beq_eq_false_iff_ne, bne_eq_false_iff_eq, Int.not_lt, Int.not_le, gt_iff_lt, ge_iff_le, ne_eq] at h1
    refine X_seq ?_
    refine X_region ?_
    refine XL_det .no (D_pure rfl) rfl ?_
    refine XL_then ?_
    refine X_ret ?_
    refine thenX_ret ?_
    refine ret_ok (.nil _) (res_tmp rfl rfl) ?_
    exact ⟨_, ⟨by rw [decide_eq_false (fun h => h1 (by rw [h]))], rfl⟩, _, (by repeat first | with_reducible exact .nil _ | with_reducible exact .here _ _ | with_reducible exact Take.self _ | with_reducible apply Take.cons | with_reducible apply Out.there | with_reducible apply Take.skip)⟩
  · try simp only [decide_eq_true_eq, decide_eq_false_iff_not, Bool.not_eq_true', Bool.not_eq_false', beq_iff_eq, bne_iff_ne, beq_eq_false_iff_ne, bne_eq_false_iff_eq, Int.not_lt, Int.not_le, gt_iff_lt, ge_iff_le, ne_eq] at h1
    refine X_skip ?_
    refine thenX_normal ?_
    refine X_seq ?_
    refine X_seq ?_
    refine X_region ?_
    refine XL_det .no (D_pure rfl) rfl ?_
    refine XL_then ?_
    refine X_block ?_
    refine X_loop (α := Nat) (fun i => i ≤ a.l.length ∧ a.l.take i = b.l.take i) (fun i => [(5, .int .i64 (i : Int)), (0, .slice a.oad a.l.length a.c), (1, .slice b.oad b.l.length b.c)]) (fun i => [Ka, Kb]) (fun i => a.l.length - i) 0 ?_ (by refine ⟨?_, ?_, ?_, trivial⟩ <;> rfl) (by repeat first | with_reducible exact .nil _ | with_reducible exact .here _ _ | with_reducible exact Take.self _ | with_reducible apply Take.cons | with_reducible apply Out.there | with_reducible apply Take.skip) ?_
    · exact ⟨Nat.zero_le _, rfl⟩
    · rintro i ⟨hi, hq⟩
      have hsm := a.small
      refine X_seq ?_
      refine X_seq ?_
      refine X_region ?_
      refine XL_det .no (D_pure rfl) rfl ?_
      refine XL_det .no (D_pure rfl) rfl ?_
      refine XL_det .no (D_len rfl rfl slc_59) rfl ?_
      refine XL_det .no (D_pure rfl) rfl ?_
      refine XL_then ?_
      refine X_cond rfl (fun h2 => ?_) (fun h2 => ?_)
      · try simp only [decide_eq_true_eq, decide_eq_false_iff_not, Bool.not_eq_true', Bool.not_eq_false', beq_iff_eq, bne_iff_ne, beq_eq_false_iff_ne, bne_eq_false_iff_eq, Int.not_lt, Int.not_le, gt_iff_lt, ge_iff_le, ne_eq] at h2
        obtain ⟨x, hx⟩ : ∃ x, a.l[i]? = some x := ⟨_, List.getElem?_eq_getElem (by omega)⟩
        obtain ⟨y, hy⟩ : ∃ y, b.l[i]? = some y := ⟨_, List.getElem?_eq_getElem (by omega)⟩
        refine X_skip ?_
        refine thenX_normal ?_
        refine X_seq ?_
        refine X_block ?_
        refine X_seq ?_
        refine X_draw _ mixed (Take.self _) ?_
        refine XA_det 0 rfl (by kernel_rfl) (by kernel_rfl) (by kernel_rfl) (by kernel_rfl) (fun _ _ _ _ h => h) .no (D_pure rfl) rfl ?_
        refine XA_det 1 rfl (by kernel_rfl) (by kernel_rfl) (by kernel_rfl) (by kernel_rfl) (fun _ _ _ _ h => h) .no (D_pure rfl) rfl ?_
        refine XA_det 2 rfl (by kernel_rfl) (by kernel_rfl) (by kernel_rfl) (by kernel_rfl) (fun _ _ _ _ h => h) .no (D_idxSo rfl rfl slc_59 (a).nil0 rfl (by omega) rfl) rfl ?_
        refine XA_det 3 rfl (by kernel_rfl) (by kernel_rfl) (by kernel_rfl) (by kernel_rfl) (fun _ _ _ _ h => h) .no (D_els (enc := encS) (sz := 3) (i := i) (fun _ => rfl) rfl (by repeat first | with_reducible exact .here _ _ | with_reducible apply Out.there) ha tk_78 hx) rfl ?_
        refine XA_det 4 rfl (by kernel_rfl) (by kernel_rfl) (by kernel_rfl) (by kernel_rfl) (fun _ _ _ _ h => h) .no (D_pure rfl) rfl ?_
        refine XA_det 5 rfl (by kernel_rfl) (by kernel_rfl) (by kernel_rfl) (by kernel_rfl) (fun _ _ _ _ h => h) .no (D_pure rfl) rfl ?_
        refine XA_det 6 rfl (by kernel_rfl) (by kernel_rfl) (by kernel_rfl) (by kernel_rfl) (fun _ _ _ _ h => h) .no (D_idxSo rfl rfl slc_59 (b).nil0 rfl (by omega) rfl) rfl ?_
        refine XA_det 7 rfl (by kernel_rfl) (by kernel_rfl) (by kernel_rfl) (by kernel_rfl) (fun _ _ _ _ h => h) .no (D_els (enc := encS) (sz := 3) (i := i) (fun _ => rfl) rfl (by repeat first | with_reducible exact .here _ _ | with_reducible apply Out.there) hb tk_78 hy) rfl ?_
        refine XA_det 8 rfl (by kernel_rfl) (by kernel_rfl) (by kernel_rfl) (by kernel_rfl) (fun _ _ _ _ h => h) .no (D_eqs (b := !decide (x = y)) rfl rfl eqk_78 eqg_78 rfl rfl rfl (congrArg (fun b => !b) (sec_eq x y))) rfl ?_
        refine XA_done (by kernel_rfl) ?_
        try simp only [List.cons_append, List.nil_append, List.append_nil]
        refine thenX_normal ?_
        refine X_cond rfl (fun h3 => ?_) (fun h3 => ?_)
        · try simp only [decide_eq_true_eq, decide_eq_false_iff_not, Bool.not_eq_true', Bool.not_eq_false', beq_iff_eq, bne_iff_ne, beq_eq_false_iff_ne, bne_eq_false_iff_eq, Int.not_lt, Int.not_le, gt_iff_lt, ge_iff_le, ne_eq] at h3
          refine X_seq ?_
          refine X_region ?_
          refine XL_det .no (D_pure rfl) rfl ?_
          refine XL_then ?_
          refine X_ret ?_
          refine inBlk_ret ?_
          refine thenX_ret ?_
          refine loopQ_ret ?_
          refine inBlk_ret ?_
          refine thenX_ret ?_
          refine ret_ok (.nil _) (res_tmp rfl rfl) ?_
          exact ⟨_, ⟨by rw [decide_eq_false (fun h => (by simpa using h3 : ¬ x = y) (by rw [h, hy] at hx; exact (Option.some.inj hx).symm))], rfl⟩, _, (by repeat first | with_reducible exact .nil _ | with_reducible exact .here _ _ | with_reducible exact Take.self _ | with_reducible apply Take.cons | with_reducible apply Out.there | with_reducible apply Take.skip)⟩
        · try simp only [decide_eq_true_eq, decide_eq_false_iff_not, Bool.not_eq_true', Bool.not_eq_false', beq_iff_eq, bne_iff_ne, beq_eq_false_iff_ne, bne_eq_false_iff_eq, Int.not_lt, Int.not_le, gt_iff_lt, ge_iff_le, ne_eq] at h3
          refine X_skip ?_
          refine inBlk_normal ?_
          refine thenX_normal ?_
          refine X_region ?_
          refine XL_det .no (D_pure rfl) rfl ?_
          refine XL_det .no (D_add rfl rfl (by omega) (by omega)) rfl ?_
          refine XL_det .no (D_pure rfl) rfl ?_
          refine XL_nil ?_
          refine loopQ_next (i + 1) ?_ ?_ ?_ ?_
          · exact ⟨by omega, take_s hq hx hy (by simpa using h3)⟩
          · omega
          · refine ⟨?_, ?_, ?_, trivial⟩ <;> rfl
          · exact ⟨_, (by repeat first | with_reducible exact .nil _ | with_reducible exact .here _ _ | with_reducible exact Take.self _ | with_reducible apply Take.cons | with_reducible apply Out.there | with_reducible apply Take.skip)⟩
      · try simp only [decide_eq_true_eq, decide_eq_false_iff_not, Bool.not_eq_true', Bool.not_eq_false', beq_iff_eq, bne_iff_ne, beq_eq_false_iff_ne, bne_eq_false_iff_eq, Int.not_lt, Int.not_le, gt_iff_lt, ge_iff_le, ne_eq] at h2
        refine X_exit ?_
        refine thenX_exit ?_
        refine loopQ_exit ?_
        refine inBlk_here ?_
        refine thenX_normal ?_
        refine X_seq ?_
        refine X_region ?_
        refine XL_det .no (D_pure rfl) rfl ?_
        refine XL_then ?_
        refine X_ret ?_
        refine ret_ok (.nil _) (res_tmp rfl rfl) ?_
        exact ⟨_, ⟨by rw [decide_eq_true (by rw [List.take_of_length_le (by omega), List.take_of_length_le (by omega)] at hq; exact hq)], rfl⟩, _, (by repeat first | with_reducible exact .nil _ | with_reducible exact .here _ _ | with_reducible exact Take.self _ | with_reducible apply Take.cons | with_reducible apply Out.there | with_reducible apply Take.skip)⟩

theorem jitr (ba bt bc : Nat) (T : Nat → Int) (cost : Int) (l : Arr Sec) (hl : Rd K l.ad (l.l.flatMap encS)) (hT : ∀ j, j < 8 → 0 ≤ T (3 + j)) (hc : cost ≤ 9223372036854775807) :
    Itr Try.prog B 41 [.pointer (some ⟨ba, 0, none⟩), .pointer (some ⟨bt, 0, none⟩), .pointer (some ⟨bc, 0, none⟩)] [blk ba [.slice l.oad l.l.length l.c] 59, blk bt (encT T) 58, blk bc [.int .i64 cost] 3, K] ((secs T cost 0 0 l.l).map fun s => [secV s]) := by
  intro ly J Jx S0 hJ0 hy
  change Ctr _ _ _ _ (blk ba [.slice l.oad l.l.length l.c] 59 :: blk bt (encT T) 58 :: blk bc [.int .i64 cost] 3 :: K :: S0) _
  refine Ctr_of_X (N := 38) Try.func41 rfl (by simp) rfl ?_
  intro w0 D0
  refine X_seq ?_
  refine X_region ?_
  refine XL_det .no (D_pure rfl) rfl ?_
  refine XL_det .no (D_pure rfl) rfl ?_
  refine XL_then ?_
  refine X_seq ?_
  refine X_region ?_
  refine XL_det .no (D_ldo rfl (by repeat first | with_reducible exact .here _ _ | with_reducible apply Out.there) tk_59 (by rfl)) rfl ?_
  refine XL_det .no (D_len rfl rfl slc_59) rfl ?_
  refine XL_det .no (D_pure rfl) rfl ?_
  refine XL_then ?_
  refine X_block ?_
  refine X_loop (α := Nat × Int × Nat × List (Asrt B)) (fun ⟨i, fr, many, S1⟩ => i ≤ l.l.length ∧ 0 ≤ fr ∧ J many S1 ∧ many ≤ 8 ∧ ∃ pre, secs T cost 0 0 l.l = pre ++ secs T cost fr many (l.l.drop i) ∧ pre.length = many) (fun ⟨i, fr, many, S1⟩ => [(5, .int .i64 fr), (6, .int .i64 (many : Int)), (13, .int .i64 (i : Int)), (0, .func (.yield ly) #[] #[]), (1, .pointer (some ⟨ba, 0, none⟩)), (2, .pointer (some ⟨bt, 0, none⟩)), (3, .pointer (some ⟨bc, 0, none⟩)), (11, .slice l.oad l.l.length l.c), (12, .int .i64 (l.l.length : Int))]) (fun ⟨i, fr, many, S1⟩ => blk ba [.slice l.oad l.l.length l.c] 59 :: blk bt (encT T) 58 :: blk bc [.int .i64 cost] 3 :: K :: S1) (fun ⟨i, fr, many, S1⟩ => l.l.length - i) (0, 0, 0, S0) ?_ (by refine ⟨?_, ?_, ?_, ?_, ?_, ?_, ?_, ?_, ?_, trivial⟩ <;> rfl) (by repeat first | with_reducible exact .nil _ | with_reducible exact .here _ _ | with_reducible exact Take.self _ | with_reducible apply Take.cons | with_reducible apply Out.there | with_reducible apply Take.skip) ?_
  · exact ⟨Nat.zero_le _, by decide, hJ0, by decide, [], rfl, rfl⟩
  · rintro ⟨i, fr, many, S1⟩ ⟨hi, hfr, hJ, hm, pre, hpre, hlen⟩
    dsimp only
    have hsm := l.small
    refine X_seq ?_
    refine X_region ?_
    refine XL_det .no (D_pure rfl) rfl ?_
    refine XL_then ?_
    refine X_seq ?_
    refine X_cond rfl (fun h1 => ?_) (fun h1 => ?_)
    · try simp only [decide_eq_true_eq, decide_eq_false_iff_not, Bool.not_eq_true', Bool.not_eq_false', beq_iff_eq, bne_iff_ne, beq_eq_false_iff_ne, bne_eq_false_iff_eq, Int.not_lt, Int.not_le, gt_iff_lt, ge_iff_le, ne_eq] at h1
      obtain ⟨s, hget⟩ : ∃ s, l.l[i]? = some s := ⟨_, List.getElem?_eq_getElem (by omega)⟩
      refine X_skip ?_
      refine thenX_normal ?_
      refine X_seq ?_
      refine X_block ?_
      refine X_seq ?_
      refine X_region ?_
      refine XL_det .no (D_idxSo rfl rfl slc_59 (l).nil0 rfl (by omega) rfl) rfl ?_
      refine XL_det .no (D_els (enc := encS) (sz := 3) (i := i) (fun _ => rfl) rfl (by repeat first | with_reducible exact .here _ _ | with_reducible apply Out.there) hl tk_78 hget) rfl ?_
      refine XL_alloc .no zero_78 rfl (fun b1 => ?_)
      refine XL_efd .no (F_stw rfl rfl rfl (by repeat first | with_reducible exact .here _ _ | with_reducible apply Out.there) tk_78 rfl rfl) ?_
      refine XL_then ?_
      refine X_seq ?_
      refine X_seq ?_
      refine X_region ?_
      refine XL_det .no (D_pure rfl) rfl ?_
      refine XL_det .no (D_pure rfl) rfl ?_
      refine XL_then ?_
      refine X_cond rfl (fun h2 => ?_) (fun h2 => ?_)
      · try simp only [decide_eq_true_eq, decide_eq_false_iff_not, Bool.not_eq_true', Bool.not_eq_false', beq_iff_eq, bne_iff_ne, beq_eq_false_iff_ne, bne_eq_false_iff_eq, Int.not_lt, Int.not_le, gt_iff_lt, ge_iff_le, ne_eq] at h2
        refine X_ret ?_
        refine thenX_ret ?_
        refine inBlk_ret ?_
        refine thenX_ret ?_
        refine loopQ_ret ?_
        refine inBlk_ret ?_
        refine ret_ok (.nil _) (res_none rfl) ?_
        have e8 : many = 8 := by omega
        subst e8
        exact ⟨blk ba [.slice l.oad l.l.length l.c] 59 :: blk bt (encT T) 58 :: blk bc [.int .i64 cost] 3 :: K :: S1, ⟨S1, rfl, .inl (by rw [List.length_map, hpre, secs_8, List.append_nil, hlen]; exact hJ)⟩, _, (by repeat first | with_reducible exact .nil _ | with_reducible exact .here _ _ | with_reducible exact Take.self _ | with_reducible apply Take.cons | with_reducible apply Out.there | with_reducible apply Take.skip)⟩
      · try simp only [decide_eq_true_eq, decide_eq_false_iff_not, Bool.not_eq_true', Bool.not_eq_false', beq_iff_eq, bne_iff_ne, beq_eq_false_iff_ne, bne_eq_false_iff_eq, Int.not_lt, Int.not_le, gt_iff_lt, ge_iff_le, ne_eq] at h2
        refine X_skip ?_
        refine thenX_normal ?_
        refine X_seq ?_
        refine X_region ?_
        refine XL_det .no (D_ldso rfl (by repeat first | with_reducible exact .here _ _ | with_reducible apply Out.there) tk_58 rfl (by rfl)) rfl ?_
        refine XL_det .no (D_ldo rfl (by repeat first | with_reducible exact .here _ _ | with_reducible apply Out.there) tk_3 (by rfl)) rfl ?_
        refine XL_det .no (D_pure rfl) rfl ?_
        refine XL_det .no (D_ldso rfl (by repeat first | with_reducible exact .here _ _ | with_reducible apply Out.there) tk_78 rfl (by rfl)) rfl ?_
        refine XL_callv .no en_42 rfl (jcut T cost fr s hT hfr hc) rfl ?_
        refine XL_det .no (D_pure rfl) rfl ?_
        refine XL_det .no (D_pure rfl) rfl ?_
        refine XL_det .no (D_pure rfl) rfl ?_
        refine XL_alloc .no zero_78 rfl (fun b2 => ?_)
        refine XL_efd .no (F_stw rfl rfl rfl (by repeat first | with_reducible exact .here _ _ | with_reducible apply Out.there) tk_78 rfl rfl) ?_
        refine XL_det .no (D_pure rfl) rfl ?_
        refine XL_then ?_
        refine X_seq ?_
        refine X_seq ?_
        refine X_region ?_
        refine XL_det .no (D_pure rfl) rfl ?_
        refine XL_det .no (D_pure rfl) rfl ?_
        refine XL_then ?_
        refine X_cond rfl (fun h3 => ?_) (fun h3 => ?_)
        · try simp only [decide_eq_true_eq, decide_eq_false_iff_not, Bool.not_eq_true', Bool.not_eq_false', beq_iff_eq, bne_iff_ne, beq_eq_false_iff_ne, bne_eq_false_iff_eq, Int.not_lt, Int.not_le, gt_iff_lt, ge_iff_le, ne_eq] at h3
          refine X_exit ?_
          refine thenX_exit ?_
          refine inBlk_here ?_
          refine thenX_normal ?_
          refine X_region ?_
          refine XL_det .no (D_add rfl rfl (by omega) (by omega)) rfl ?_
          refine XL_det .no (D_pure rfl) rfl ?_
          refine XL_nil ?_
          refine loopQ_next (i + 1, fr, many, S1) ?_ ?_ ?_ ?_
          · dsimp only; refine ⟨by omega, hfr, hJ, hm, pre, ?_, hlen⟩; rw [hpre, secs_n hget (by omega) (by simpa using h3)]
          · dsimp only; omega
          · refine ⟨?_, ?_, ?_, ?_, ?_, ?_, ?_, ?_, ?_, trivial⟩ <;> rfl
          · dsimp only; exact ⟨_, (by repeat first | with_reducible exact .nil _ | with_reducible exact .here _ _ | with_reducible exact Take.self _ | with_reducible apply Take.cons | with_reducible apply Out.there | with_reducible apply Take.skip)⟩
        · try simp only [decide_eq_true_eq, decide_eq_false_iff_not, Bool.not_eq_true', Bool.not_eq_false', beq_iff_eq, bne_iff_ne, beq_eq_false_iff_ne, bne_eq_false_iff_eq, Int.not_lt, Int.not_le, gt_iff_lt, ge_iff_le, ne_eq] at h3
          obtain ⟨c, hcs⟩ := Option.isSome_iff_exists.1 (by simpa using h3 : (cutS T cost fr s).isSome = true)
          obtain ⟨hmx, hgx⟩ := get_secs (L := secs T cost 0 0 l.l) (by rw [hpre, secs_s hget (by omega) hcs]) hlen
          have hyy := hy many S1 hmx hJ
          rw [hgx] at hyy
          simp only [hcs, Option.getD_some]
          refine X_skip ?_
          refine thenX_normal ?_
          refine X_seq ?_
          refine X_seq ?_
          refine X_region ?_
          refine XL_det .no (D_pure rfl) rfl ?_
          refine XL_det .no (D_ldso rfl (by repeat first | with_reducible exact .here _ _ | with_reducible apply Out.there) tk_78 rfl (by rfl)) rfl ?_
          refine XL_yield (own := [blk b2 (encS c) 78, blk b1 (encS s) 78, blk ba [.slice l.oad l.l.length l.c] 59, blk bt (encT T) 58, blk bc [.int .i64 cost] 3, K]) (Si := S1) .no rfl rfl hyy rfl ?_
          rintro bb S2 hp
          simp only [List.cons_append, List.nil_append]
          refine XL_det .no (D_pure rfl) rfl ?_
          refine XL_then ?_
          refine X_cond rfl (fun h4 => ?_) (fun h4 => ?_)
          · try simp only [decide_eq_true_eq, decide_eq_false_iff_not, Bool.not_eq_true', Bool.not_eq_false', beq_iff_eq, bne_iff_ne, beq_eq_false_iff_ne, bne_eq_false_iff_eq, Int.not_lt, Int.not_le, gt_iff_lt, ge_iff_le, ne_eq] at h4
            refine X_ret ?_
            refine thenX_ret ?_
            refine inBlk_ret ?_
            refine thenX_ret ?_
            refine loopQ_ret ?_
            refine inBlk_ret ?_
            refine ret_ok (.nil _) (res_none rfl) ?_
            obtain ⟨h, _⟩ | ⟨_, hp⟩ := hp
            · rw [h] at h4; cases h4
            exact ⟨blk ba [.slice l.oad l.l.length l.c] 59 :: blk bt (encT T) 58 :: blk bc [.int .i64 cost] 3 :: K :: S2, ⟨S2, rfl, .inr ⟨many, hmx, hp⟩⟩, _, (by repeat first | with_reducible exact .nil _ | with_reducible exact .here _ _ | with_reducible exact Take.self _ | with_reducible apply Take.cons | with_reducible apply Out.there | with_reducible apply Take.skip)⟩
          · try simp only [decide_eq_true_eq, decide_eq_false_iff_not, Bool.not_eq_true', Bool.not_eq_false', beq_iff_eq, bne_iff_ne, beq_eq_false_iff_ne, bne_eq_false_iff_eq, Int.not_lt, Int.not_le, gt_iff_lt, ge_iff_le, ne_eq] at h4
            obtain ⟨_, hp⟩ | ⟨h, _⟩ := hp
            rotate_left
            · rw [h] at h4; cases h4
            refine X_skip ?_
            refine thenX_normal ?_
            refine X_region ?_
            refine XL_det .no (D_fld rfl fld_78_2 (o' := 2) rfl) rfl ?_
            refine XL_det .no (D_ldo rfl (by repeat first | with_reducible exact .here _ _ | with_reducible apply Out.there) tk_3 (by rfl)) rfl ?_
            refine XL_det .no (D_pure rfl) rfl ?_
            refine XL_det .no (D_add rfl rfl (by omega) (by omega)) rfl ?_
            refine XL_det .no (D_pure rfl) rfl ?_
            refine XL_det .no (D_pure rfl) rfl ?_
            refine XL_nil ?_
            refine inBlk_normal ?_
            refine thenX_normal ?_
            refine X_region ?_
            refine XL_det .no (D_add rfl rfl (by omega) (by omega)) rfl ?_
            refine XL_det .no (D_pure rfl) rfl ?_
            refine XL_nil ?_
            refine loopQ_next (i + 1, c.2.2, many + 1, S2) ?_ ?_ ?_ ?_
            · dsimp only; refine ⟨by omega, (cut_to hT hcs hfr).1, hp, by omega, pre ++ [c], ?_, by simp [hlen]⟩; rw [hpre, secs_s hget (by omega) hcs, List.append_assoc]; rfl
            · dsimp only; omega
            · refine ⟨?_, ?_, ?_, ?_, ?_, ?_, ?_, ?_, ?_, trivial⟩ <;> rfl
            · dsimp only; exact ⟨_, (by repeat first | with_reducible exact .nil _ | with_reducible exact .here _ _ | with_reducible exact Take.self _ | with_reducible apply Take.cons | with_reducible apply Out.there | with_reducible apply Take.skip)⟩
    · try simp only [decide_eq_true_eq, decide_eq_false_iff_not, Bool.not_eq_true', Bool.not_eq_false', beq_iff_eq, bne_iff_ne, beq_eq_false_iff_ne, bne_eq_false_iff_eq, Int.not_lt, Int.not_le, gt_iff_lt, ge_iff_le, ne_eq] at h1
      refine X_exit ?_
      refine thenX_exit ?_
      refine loopQ_exit ?_
      refine inBlk_here ?_
      refine ret_okn (.nil _) (res_none rfl) ?_
      exact ⟨blk ba [.slice l.oad l.l.length l.c] 59 :: blk bt (encT T) 58 :: blk bc [.int .i64 cost] 3 :: K :: S1, ⟨S1, rfl, .inl (by rw [List.length_map, hpre, List.drop_of_length_le (by omega), secs, List.append_nil, hlen]; exact hJ)⟩, _, (by repeat first | with_reducible exact .nil _ | with_reducible exact .here _ _ | with_reducible exact Take.self _ | with_reducible apply Take.cons | with_reducible apply Out.there | with_reducible apply Take.skip)⟩


theorem secs_len {T : Nat → Int} {cost : Int} : ∀ (l : List Sec) (from_ : Int) (many : Nat), many ≤ 8 → (secs T cost from_ many l).length ≤ 8 - many
  | [], _, _, _ => by simp [secs]
  | s :: l, from_, many, h => by
    rw [secs]
    split
    · simp
    · cases hc : cutS T cost from_ s with
      | none => exact secs_len l from_ many h
      | some c => have := secs_len (T := T) (cost := cost) l c.2.2 (many + 1) (by omega); simp only [List.length_cons]; omega

theorem jsections (T : Nat → Int) (cost : Int) (l : Arr Sec) : Ctr Try.prog B 38 [tV T, .int .i64 cost, .slice l.oad l.l.length l.c] [] (fun v S => ∃ ba bt bc, v = .func (.func 41) #[] #[.pointer (some ⟨ba, 0, none⟩), .pointer (some ⟨bt, 0, none⟩), .pointer (some ⟨bc, 0, none⟩)] ∧ S = [blk ba [.slice l.oad l.l.length l.c] 59, blk bt (encT T) 58, blk bc [.int .i64 cost] 3]) := by
  refine Ctr_of_X (N := 8) Try.func38 rfl (by simp) rfl ?_
  intro w0 D0
  refine X_seq ?_
  refine X_region ?_
  refine XL_box .no rfl rfl rfl (fun b1 => ?_)
  refine XL_box .no rfl rfl rfl (fun b2 => ?_)
  refine XL_box .no rfl rfl rfl (fun b3 => ?_)
  refine XL_det .no (D_pure rfl) rfl ?_
  refine XL_then ?_
  refine X_seq ?_
  refine X_region ?_
  refine XL_det .no (D_pure rfl) rfl ?_
  refine XL_det .no (D_pure rfl) rfl ?_
  refine XL_then ?_
  refine X_ret ?_
  refine ret_ok (.nil _) (res_tmp rfl rfl) ?_
  exact ⟨[blk b3 [.slice l.oad l.l.length l.c] 59, blk b1 (encT T) 58, blk b2 [.int .i64 cost] 3], ⟨b3, b1, b2, rfl, rfl⟩, _, (by repeat first | with_reducible exact .nil _ | with_reducible exact .here _ _ | with_reducible exact Take.self _ | with_reducible apply Take.cons | with_reducible apply Out.there | with_reducible apply Take.skip)⟩

theorem jlist (T : Nat → Int) (cost : Int) (l : Arr Sec) (hl : Rd K l.ad (l.l.flatMap encS)) (hT : ∀ j, j < 8 → 0 ≤ T (3 + j)) (hc : cost ≤ 9223372036854775807) : Ctr Try.prog B 22 [tV T, .int .i64 cost, .slice l.oad l.l.length l.c] [K] (fun v S => ∃ x : Arr Sec, (x.l = secs T cost 0 0 l.l ∧ x.Own) ∧ v = x.v ∧ S = [row (.slice x.oad x.l.length x.c) 78 3 x.l.length (x.l.flatMap encS)] ++ [K]) := by
  refine Ctr_of_X (N := 23) Try.func22 rfl (by simp) rfl ?_
  intro w0 D0
  refine X_seq ?_
  refine X_region ?_
  refine XL_box .no rfl rfl rfl (fun b1 => ?_)
  refine XL_det .no (D_pure rfl) rfl ?_
  refine XL_then ?_
  refine X_seq ?_
  refine X_region ?_
  refine XL_alloc .no zero_59 rfl (fun b2 => ?_)
  refine XL_then ?_
  refine X_seq ?_
  refine X_seq ?_
  refine X_region ?_
  refine XL_det .no (D_ldso rfl (by repeat first | with_reducible exact .here _ _ | with_reducible apply Out.there) tk_58 rfl (by rfl)) rfl ?_
  refine XL_det .no (D_pure rfl) rfl ?_
  refine XL_det .no (D_pure rfl) rfl ?_
  refine XL_call .no en_38 rfl (jsections T cost l) (by repeat first | with_reducible exact .nil _ | with_reducible exact .here _ _ | with_reducible exact Take.self _ | with_reducible apply Take.cons | with_reducible apply Out.there | with_reducible apply Take.skip) rfl ?_
  rintro _ _ ⟨ba, bt, bc, rfl, rfl⟩
  simp only [List.cons_append, List.nil_append]
  refine XL_det .no (D_pure rfl) rfl ?_
  refine XL_then ?_
  refine X_seq ?_
  refine X_region ?_
  refine XL_det .no (D_pure rfl) rfl ?_
  refine XL_det .no (D_nef rfl rfl uf_80) rfl ?_
  refine XL_then ?_
  refine X_cond_t rfl rfl ?_
  refine X_seq ?_
  refine X_region ?_
  refine XL_det .no (D_pure rfl) rfl ?_
  refine XL_then ?_
  refine X_block ?_
  refine X_rownil 78 3 ?_
  refine X_range (own := [blk ba [.slice l.oad l.l.length l.c] 59, blk bt (encT T) 58, blk bc [.int .i64 cost] 3, K]) (S1 := [blk b2 [.slice none 0 0] 59, row (.slice none 0 0) 78 3 0 []]) rfl en_41 (jitr ba bt bc T cost l hl hT hc) (fun i S => ∃ a : Arr Sec, a.l = (secs T cost 0 0 l.l).take i ∧ a.Own ∧ S = [blk b2 [a.v] 59, row (.slice a.oad a.l.length a.c) 78 3 a.l.length (a.l.flatMap encS)]) (fun c i S => False) (show Take [blk ba [.slice l.oad l.l.length l.c] 59, blk bt (encT T) 58, blk bc [.int .i64 cost] 3, K, blk b2 [.slice none 0 0] 59, row (.slice none 0 0) 78 3 0 []] _ _ from (by repeat first | with_reducible exact .nil _ | with_reducible exact .here _ _ | with_reducible exact Take.self _ | with_reducible apply Take.cons | with_reducible apply Out.there | with_reducible apply Take.skip)) (⟨⟨none, 0, [], fun _ => rfl, by decide⟩, rfl, (by intro _ h; cases h), rfl⟩) rfl (fun x hx => by obtain ⟨y, _, rfl⟩ := List.mem_map.1 hx; rfl) ?_ ?_ ?_
  · intro ly rec A2 i S2 hi hJ
    obtain ⟨a, ha, hown, rfl⟩ := hJ
    rw [List.length_map] at hi
    obtain ⟨c, hget⟩ : ∃ c, (secs T cost 0 0 l.l)[i]? = some c := ⟨_, List.getElem?_eq_getElem hi⟩
    have h8 := secs_len (T := T) (cost := cost) l.l 0 0 (by decide)
    have hal : a.l.length = i := by rw [ha, List.length_take]; omega
    rw [show ((secs T cost 0 0 l.l).map fun s => [secV s]).getD i [] = [secV c] from by simp [List.getD, hget]]
    refine X_region ?_
    refine XL_alloc .no zero_78 rfl (fun b3 => ?_)
    refine XL_efd .no (F_stw rfl rfl rfl (by repeat first | with_reducible exact .here _ _ | with_reducible apply Out.there) tk_78 rfl rfl) ?_
    refine XL_nil ?_
    refine ⟨rfl, _, _, .cons (by repeat first | with_reducible exact .here _ _ | with_reducible apply Out.there) (Take.self _), fun rec2 => ?_⟩
    refine X_block ?_
    refine X_region ?_
    refine XL_det .no (D_ldo rfl (by repeat first | with_reducible exact .here _ _ | with_reducible apply Out.there) tk_59 (by rfl)) rfl ?_
    refine XL_det .no (D_ldso rfl (by repeat first | with_reducible exact .here _ _ | with_reducible apply Out.there) tk_78 rfl (by rfl)) rfl ?_
    refine XL_bslice (cs := encS c) .no rfl slt_59 (by decide) (by decide) (by rfl) (by rfl) rfl rfl (fun b4 => ?_)
    refine XL_append (K := blk b4 (encS c) 78) (news := encS c) .no rfl rfl slt_59 (by repeat first | with_reducible exact .here _ _ | with_reducible apply Out.there) (by repeat first | with_reducible exact .here _ _ | with_reducible apply Out.there) (Rd_blk0) (by rfl) (by simp [Value.oneCell']) (by unfold maxLen; omega) (by omega) rfl (fun v2 hv2 => ?_)
    rw [flat_app]
    refine XL_learn (fun w h => row_arr (l := a.l ++ [c]) (enc := encS) h (by repeat first | with_reducible exact .here _ _ | with_reducible apply Out.there) (by simp)) ?_
    rintro ⟨a2, ha2, hown2, rfl⟩
    rw [show a.l.length + 1 = a2.l.length from by rw [ha2]; simp, ← ha2]
    refine XL_efd .no (F_stl rfl rfl rfl (by repeat first | with_reducible exact .here _ _ | with_reducible apply Out.there) tk_59 (by repeat first | exact .zero _ _ _ | apply SetL.succ)) ?_
    refine XL_nil ?_
    refine inBlk_normal ?_
    exact ⟨[blk b2 [a2.v] 59, row (.slice a2.oad a2.l.length a2.c) 78 3 a2.l.length (a2.l.flatMap encS)], _, (by repeat first | with_reducible exact .nil _ | with_reducible exact .here _ _ | with_reducible exact Take.self _ | with_reducible apply Take.cons | with_reducible apply Out.there | with_reducible apply Take.skip), ⟨a2, by rw [ha2, ha, List.take_add_one, hget]; rfl, hown2, rfl⟩⟩
  · intro dd0 S2 hJ
    obtain ⟨a, ha, hown, rfl⟩ := hJ
    rw [List.length_map, List.take_length] at ha
    simp only [List.cons_append, List.nil_append]
    refine inBlk_normal ?_
    refine thenX_normal ?_
    refine X_seq ?_
    refine X_region ?_
    refine XL_det .no (D_ldo rfl (by repeat first | with_reducible exact .here _ _ | with_reducible apply Out.there) tk_59 (by rfl)) rfl ?_
    refine XL_det .no (D_pure rfl) rfl ?_
    refine XL_then ?_
    refine X_ret ?_
    refine ret_ok (show Take [dfr dd0] _ _ from (by repeat first | with_reducible exact .nil _ | with_reducible exact .here _ _ | with_reducible exact Take.self _ | with_reducible apply Take.cons | with_reducible apply Out.there | with_reducible apply Take.skip)) (res_tmp rfl rfl) ?_
    exact ⟨[row (.slice a.oad a.l.length a.c) 78 3 a.l.length (a.l.flatMap encS), K], ⟨a, ⟨ha, hown⟩, rfl, rfl⟩, _, (by repeat first | with_reducible exact .nil _ | with_reducible exact .here _ _ | with_reducible exact Take.self _ | with_reducible apply Take.cons | with_reducible apply Out.there | with_reducible apply Take.skip)⟩
  · intro dd0 c i S2 hi h
    exact h.elim

theorem jref (T : Nat → Int) (cost : Int) (l : Arr Sec) (hl : Rd K l.ad (l.l.flatMap encS)) (hT : ∀ j, j < 8 → 0 ≤ T (3 + j)) (hc : cost ≤ 9223372036854775807) : Ctr Try.prog B 23 [tV T, .int .i64 cost, .slice l.oad l.l.length l.c] [K] (fun v S => ∃ x : Arr Sec, (x.l = secs T cost 0 0 l.l ∧ x.Own) ∧ v = x.v ∧ S = [row (.slice x.oad x.l.length x.c) 78 3 x.l.length (x.l.flatMap encS)] ++ [K]) := by
  refine Ctr_of_X (N := 93) Try.func23 rfl (by simp) rfl ?_
  intro w0 D0
  refine X_seq ?_
  refine X_region ?_
  refine XL_box .no rfl rfl rfl (fun b1 => ?_)
  refine XL_det .no (D_pure rfl) rfl ?_
  refine XL_then ?_
  refine X_seq ?_
  refine X_region ?_
  refine XL_det .no (D_pure rfl) rfl ?_
  refine XL_then ?_
  refine X_seq ?_
  refine X_region ?_
  refine XL_det .no (D_pure rfl) rfl ?_
  refine XL_then ?_
  refine X_seq ?_
  refine X_seq ?_
  refine X_region ?_
  refine XL_det .no (D_pure rfl) rfl ?_
  refine XL_then ?_
  refine X_block ?_
  refine X_rowa encS 78 3 ?_
  refine X_loop (α := Nat × Int × Arr Sec) (fun ⟨i, fr, a⟩ => i ≤ l.l.length ∧ 0 ≤ fr ∧ a.Own ∧ a.l.length ≤ 8 ∧ secs T cost 0 0 l.l = a.l ++ secs T cost fr a.l.length (l.l.drop i)) (fun ⟨i, fr, a⟩ => [(9, .int .i64 (i : Int)), (8, .int .i64 fr), (7, .slice a.oad a.l.length a.c), (3, .pointer (some ⟨b1, 0, none⟩)), (1, .int .i64 cost), (2, .slice l.oad l.l.length l.c)]) (fun ⟨i, fr, a⟩ => [blk b1 (encT T) 58, row (.slice a.oad a.l.length a.c) 78 3 a.l.length (a.l.flatMap encS), K]) (fun ⟨i, fr, a⟩ => l.l.length - i) (0, 0, Arr.emp) ?_ (by refine ⟨?_, ?_, ?_, ?_, ?_, ?_, trivial⟩ <;> rfl) (by repeat first | with_reducible exact .nil _ | with_reducible exact .here _ _ | with_reducible exact Take.self _ | with_reducible apply Take.cons | with_reducible apply Out.there | with_reducible apply Take.skip) ?_
  · exact ⟨Nat.zero_le _, by decide, Arr.emp_own, by decide, rfl⟩
  · rintro ⟨i, fr, a⟩ ⟨hi, hfr, hown, hal, hsec⟩
    dsimp only
    have hsm := l.small
    refine X_seq ?_
    refine X_seq ?_
    refine X_region ?_
    refine XL_det .no (D_pure rfl) rfl ?_
    refine XL_det .no (D_pure rfl) rfl ?_
    refine XL_det .no (D_len rfl rfl slc_59) rfl ?_
    refine XL_det .no (D_pure rfl) rfl ?_
    refine XL_det .no (D_pure rfl) rfl ?_
    refine XL_split (t := 15) rfl (fun h1 => ?_) (fun h1 => ?_)
    · try simp only [decide_eq_true_eq, decide_eq_false_iff_not, Bool.not_eq_true', Bool.not_eq_false', beq_iff_eq, bne_iff_ne, beq_eq_false_iff_ne, bne_eq_false_iff_eq, Int.not_lt, Int.not_le, gt_iff_lt, ge_iff_le, ne_eq] at h1
      refine XL_det (.yes 15 rfl rfl rfl) (D_pure rfl) rfl ?_
      refine XL_det (.yes 15 rfl rfl rfl) (D_len rfl rfl slc_59) rfl ?_
      refine XL_det (.yes 15 rfl rfl rfl) (D_pure rfl) rfl ?_
      refine XL_det .no (D_pure rfl) rfl ?_
      refine XL_then ?_
      refine X_cond rfl (fun h2 => ?_) (fun h2 => ?_)
      · try simp only [decide_eq_true_eq, decide_eq_false_iff_not, Bool.not_eq_true', Bool.not_eq_false', beq_iff_eq, bne_iff_ne, beq_eq_false_iff_ne, bne_eq_false_iff_eq, Int.not_lt, Int.not_le, gt_iff_lt, ge_iff_le, ne_eq] at h2
        obtain ⟨s, hget⟩ : ∃ s, l.l[i]? = some s := ⟨_, List.getElem?_eq_getElem (by omega)⟩
        refine X_skip ?_
        refine thenX_normal ?_
        refine X_seq ?_
        refine X_block ?_
        refine X_seq ?_
        refine X_region ?_
        refine XL_det .no (D_pure rfl) rfl ?_
        refine XL_det .no (D_pure rfl) rfl ?_
        refine XL_det .no (D_idxSo rfl rfl slc_59 (l).nil0 rfl (by omega) rfl) rfl ?_
        refine XL_det .no (D_els (enc := encS) (sz := 3) (i := i) (fun _ => rfl) rfl (by repeat first | with_reducible exact .here _ _ | with_reducible apply Out.there) hl tk_78 hget) rfl ?_
        refine XL_alloc .no zero_78 rfl (fun b2 => ?_)
        refine XL_efd .no (F_stw rfl rfl rfl (by repeat first | with_reducible exact .here _ _ | with_reducible apply Out.there) tk_78 rfl rfl) ?_
        refine XL_then ?_
        refine X_seq ?_
        refine X_seq ?_
        refine X_region ?_
        refine XL_det .no (D_fld rfl fld_78_0 (o' := 0) rfl) rfl ?_
        refine XL_det .no (D_ldo rfl (by repeat first | with_reducible exact .here _ _ | with_reducible apply Out.there) tk_3 (by rfl)) rfl ?_
        refine XL_det .no (D_pure rfl) rfl ?_
        refine XL_det .no (D_pure rfl) rfl ?_
        refine XL_split (t := 29) rfl (fun h3 => ?_) (fun h3 => ?_)
        · try simp only [decide_eq_true_eq, decide_eq_false_iff_not, Bool.not_eq_true', Bool.not_eq_false', beq_iff_eq, bne_iff_ne, beq_eq_false_iff_ne, bne_eq_false_iff_eq, Int.not_lt, Int.not_le, gt_iff_lt, ge_iff_le, ne_eq] at h3
          refine XL_skip 29 rfl rfl rfl rfl rfl ?_
          refine XL_skip 29 rfl rfl rfl rfl rfl ?_
          refine XL_skip 29 rfl rfl rfl rfl rfl ?_
          refine XL_det .no (D_pure rfl) rfl ?_
          refine XL_det .no (D_pure rfl) rfl ?_
          refine XL_skip 34 rfl rfl rfl rfl rfl ?_
          refine XL_skip 34 rfl rfl rfl rfl rfl ?_
          refine XL_skip 34 rfl rfl rfl rfl rfl ?_
          refine XL_skip 34 rfl rfl rfl rfl rfl ?_
          refine XL_skip 34 rfl rfl rfl rfl rfl ?_
          refine XL_skip 34 rfl rfl rfl rfl rfl ?_
          refine XL_det .no (D_pure rfl) rfl ?_
          refine XL_det .no (D_pure rfl) rfl ?_
          refine XL_skip 42 rfl rfl rfl rfl rfl ?_
          refine XL_skip 42 rfl rfl rfl rfl rfl ?_
          refine XL_skip 42 rfl rfl rfl rfl rfl ?_
          refine XL_skip 42 rfl rfl rfl rfl rfl ?_
          refine XL_det .no (D_pure rfl) rfl ?_
          refine XL_det .no (D_pure rfl) rfl ?_
          refine XL_skip 48 rfl rfl rfl rfl rfl ?_
          refine XL_skip 48 rfl rfl rfl rfl rfl ?_
          refine XL_skip 48 rfl rfl rfl rfl rfl ?_
          refine XL_skip 48 rfl rfl rfl rfl rfl ?_
          refine XL_det .no (D_pure rfl) rfl ?_
          refine XL_det .no (D_pure rfl) rfl ?_
          refine XL_skip 54 rfl rfl rfl rfl rfl ?_
          refine XL_skip 54 rfl rfl rfl rfl rfl ?_
          refine XL_skip 54 rfl rfl rfl rfl rfl ?_
          refine XL_skip 54 rfl rfl rfl rfl rfl ?_
          refine XL_skip 54 rfl rfl rfl rfl rfl ?_
          refine XL_det .no (D_pure rfl) rfl ?_
          refine XL_then ?_
          refine X_cond_t rfl rfl ?_
          refine X_exit ?_
          refine thenX_exit ?_
          refine inBlk_here ?_
          refine thenX_normal ?_
          refine X_region ?_
          refine XL_det .no (D_pure rfl) rfl ?_
          refine XL_det .no (D_add rfl rfl (by omega) (by omega)) rfl ?_
          refine XL_det .no (D_pure rfl) rfl ?_
          refine XL_nil ?_
          refine loopQ_next (i + 1, fr, a) ?_ ?_ ?_ ?_
          · dsimp only; refine ⟨by omega, hfr, hown, hal, ?_⟩; rw [hsec, secs_n hget (by omega) (cutS_o (by omega))]
          · dsimp only; omega
          · refine ⟨?_, ?_, ?_, ?_, ?_, ?_, trivial⟩ <;> rfl
          · dsimp only; exact ⟨_, (by repeat first | with_reducible exact .nil _ | with_reducible exact .here _ _ | with_reducible exact Take.self _ | with_reducible apply Take.cons | with_reducible apply Out.there | with_reducible apply Take.skip)⟩
        · try simp only [decide_eq_true_eq, decide_eq_false_iff_not, Bool.not_eq_true', Bool.not_eq_false', beq_iff_eq, bne_iff_ne, beq_eq_false_iff_ne, bne_eq_false_iff_eq, Int.not_lt, Int.not_le, gt_iff_lt, ge_iff_le, ne_eq] at h3
          refine XL_det (.yes 29 rfl rfl rfl) (D_fld rfl fld_78_0 (o' := 0) rfl) rfl ?_
          refine XL_det (.yes 29 rfl rfl rfl) (D_ldo rfl (by repeat first | with_reducible exact .here _ _ | with_reducible apply Out.there) tk_3 (by rfl)) rfl ?_
          refine XL_det (.yes 29 rfl rfl rfl) (D_pure rfl) rfl ?_
          refine XL_det .no (D_pure rfl) rfl ?_
          refine XL_det .no (D_pure rfl) rfl ?_
          refine XL_split (t := 34) rfl (fun h4 => ?_) (fun h4 => ?_)
          · try simp only [decide_eq_true_eq, decide_eq_false_iff_not, Bool.not_eq_true', Bool.not_eq_false', beq_iff_eq, bne_iff_ne, beq_eq_false_iff_ne, bne_eq_false_iff_eq, Int.not_lt, Int.not_le, gt_iff_lt, ge_iff_le, ne_eq] at h4
            refine XL_skip 34 rfl rfl rfl rfl rfl ?_
            refine XL_skip 34 rfl rfl rfl rfl rfl ?_
            refine XL_skip 34 rfl rfl rfl rfl rfl ?_
            refine XL_skip 34 rfl rfl rfl rfl rfl ?_
            refine XL_skip 34 rfl rfl rfl rfl rfl ?_
            refine XL_skip 34 rfl rfl rfl rfl rfl ?_
            refine XL_det .no (D_pure rfl) rfl ?_
            refine XL_det .no (D_pure rfl) rfl ?_
            refine XL_skip 42 rfl rfl rfl rfl rfl ?_
            refine XL_skip 42 rfl rfl rfl rfl rfl ?_
            refine XL_skip 42 rfl rfl rfl rfl rfl ?_
            refine XL_skip 42 rfl rfl rfl rfl rfl ?_
            refine XL_det .no (D_pure rfl) rfl ?_
            refine XL_det .no (D_pure rfl) rfl ?_
            refine XL_skip 48 rfl rfl rfl rfl rfl ?_
            refine XL_skip 48 rfl rfl rfl rfl rfl ?_
            refine XL_skip 48 rfl rfl rfl rfl rfl ?_
            refine XL_skip 48 rfl rfl rfl rfl rfl ?_
            refine XL_det .no (D_pure rfl) rfl ?_
            refine XL_det .no (D_pure rfl) rfl ?_
            refine XL_skip 54 rfl rfl rfl rfl rfl ?_
            refine XL_skip 54 rfl rfl rfl rfl rfl ?_
            refine XL_skip 54 rfl rfl rfl rfl rfl ?_
            refine XL_skip 54 rfl rfl rfl rfl rfl ?_
            refine XL_skip 54 rfl rfl rfl rfl rfl ?_
            refine XL_det .no (D_pure rfl) rfl ?_
            refine XL_then ?_
            refine X_cond_t rfl rfl ?_
            refine X_exit ?_
            refine thenX_exit ?_
            refine inBlk_here ?_
            refine thenX_normal ?_
            refine X_region ?_
            refine XL_det .no (D_pure rfl) rfl ?_
            refine XL_det .no (D_add rfl rfl (by omega) (by omega)) rfl ?_
            refine XL_det .no (D_pure rfl) rfl ?_
            refine XL_nil ?_
            refine loopQ_next (i + 1, fr, a) ?_ ?_ ?_ ?_
            · dsimp only; refine ⟨by omega, hfr, hown, hal, ?_⟩; rw [hsec, secs_n hget (by omega) (cutS_o (by omega))]
            · dsimp only; omega
            · refine ⟨?_, ?_, ?_, ?_, ?_, ?_, trivial⟩ <;> rfl
            · dsimp only; exact ⟨_, (by repeat first | with_reducible exact .nil _ | with_reducible exact .here _ _ | with_reducible exact Take.self _ | with_reducible apply Take.cons | with_reducible apply Out.there | with_reducible apply Take.skip)⟩
          · try simp only [decide_eq_true_eq, decide_eq_false_iff_not, Bool.not_eq_true', Bool.not_eq_false', beq_iff_eq, bne_iff_ne, beq_eq_false_iff_ne, bne_eq_false_iff_eq, Int.not_lt, Int.not_le, gt_iff_lt, ge_iff_le, ne_eq] at h4
            obtain ⟨j, hj⟩ := Int.eq_ofNat_of_zero_le (a := s.1) (by omega)
            have hTj := hT j (by omega)
            refine XL_det (.yes 34 rfl rfl rfl) (D_fld rfl fld_78_0 (o' := 0) rfl) rfl ?_
            refine XL_det (.yes 34 rfl rfl rfl) (D_ldo rfl (by repeat first | with_reducible exact .here _ _ | with_reducible apply Out.there) tk_3 (by rfl)) rfl ?_
            refine XL_det (.yes 34 rfl rfl rfl) (D_fld rfl fld_58_3 (o' := 3) rfl) rfl ?_
            refine XL_det (.yes 34 rfl rfl rfl) (D_idxA rfl rfl arr_56 hj (by omega) rfl) rfl ?_
            refine XL_det (.yes 34 rfl rfl rfl) (D_ldo rfl (by repeat first | with_reducible exact .here _ _ | with_reducible apply Out.there) tk_3 (encT_get (by omega))) rfl ?_
            refine XL_det (.yes 34 rfl rfl rfl) (D_pure rfl) rfl ?_
            refine XL_det .no (D_pure rfl) rfl ?_
            refine XL_det .no (D_pure rfl) rfl ?_
            refine XL_split (t := 42) rfl (fun h5 => ?_) (fun h5 => ?_)
            · try simp only [decide_eq_true_eq, decide_eq_false_iff_not, Bool.not_eq_true', Bool.not_eq_false', beq_iff_eq, bne_iff_ne, beq_eq_false_iff_ne, bne_eq_false_iff_eq, Int.not_lt, Int.not_le, gt_iff_lt, ge_iff_le, ne_eq] at h5
              refine XL_skip 42 rfl rfl rfl rfl rfl ?_
              refine XL_skip 42 rfl rfl rfl rfl rfl ?_
              refine XL_skip 42 rfl rfl rfl rfl rfl ?_
              refine XL_skip 42 rfl rfl rfl rfl rfl ?_
              refine XL_det .no (D_pure rfl) rfl ?_
              refine XL_det .no (D_pure rfl) rfl ?_
              refine XL_skip 48 rfl rfl rfl rfl rfl ?_
              refine XL_skip 48 rfl rfl rfl rfl rfl ?_
              refine XL_skip 48 rfl rfl rfl rfl rfl ?_
              refine XL_skip 48 rfl rfl rfl rfl rfl ?_
              refine XL_det .no (D_pure rfl) rfl ?_
              refine XL_det .no (D_pure rfl) rfl ?_
              refine XL_skip 54 rfl rfl rfl rfl rfl ?_
              refine XL_skip 54 rfl rfl rfl rfl rfl ?_
              refine XL_skip 54 rfl rfl rfl rfl rfl ?_
              refine XL_skip 54 rfl rfl rfl rfl rfl ?_
              refine XL_skip 54 rfl rfl rfl rfl rfl ?_
              refine XL_det .no (D_pure rfl) rfl ?_
              refine XL_then ?_
              refine X_cond_t rfl rfl ?_
              refine X_exit ?_
              refine thenX_exit ?_
              refine inBlk_here ?_
              refine thenX_normal ?_
              refine X_region ?_
              refine XL_det .no (D_pure rfl) rfl ?_
              refine XL_det .no (D_add rfl rfl (by omega) (by omega)) rfl ?_
              refine XL_det .no (D_pure rfl) rfl ?_
              refine XL_nil ?_
              refine loopQ_next (i + 1, fr, a) ?_ ?_ ?_ ?_
              · dsimp only; refine ⟨by omega, hfr, hown, hal, ?_⟩; rw [hsec, secs_n hget (by omega) (cutS_n hj (by omega))]
              · dsimp only; omega
              · refine ⟨?_, ?_, ?_, ?_, ?_, ?_, trivial⟩ <;> rfl
              · dsimp only; exact ⟨_, (by repeat first | with_reducible exact .nil _ | with_reducible exact .here _ _ | with_reducible exact Take.self _ | with_reducible apply Take.cons | with_reducible apply Out.there | with_reducible apply Take.skip)⟩
            · try simp only [decide_eq_true_eq, decide_eq_false_iff_not, Bool.not_eq_true', Bool.not_eq_false', beq_iff_eq, bne_iff_ne, beq_eq_false_iff_ne, bne_eq_false_iff_eq, Int.not_lt, Int.not_le, gt_iff_lt, ge_iff_le, ne_eq] at h5
              refine XL_det (.yes 42 rfl rfl rfl) (D_fld rfl fld_78_1 (o' := 1) rfl) rfl ?_
              refine XL_det (.yes 42 rfl rfl rfl) (D_ldo rfl (by repeat first | with_reducible exact .here _ _ | with_reducible apply Out.there) tk_3 (by rfl)) rfl ?_
              refine XL_det (.yes 42 rfl rfl rfl) (D_pure rfl) rfl ?_
              refine XL_det (.yes 42 rfl rfl rfl) (D_pure rfl) rfl ?_
              refine XL_det .no (D_pure rfl) rfl ?_
              refine XL_det .no (D_pure rfl) rfl ?_
              refine XL_split (t := 48) rfl (fun h6 => ?_) (fun h6 => ?_)
              · try simp only [decide_eq_true_eq, decide_eq_false_iff_not, Bool.not_eq_true', Bool.not_eq_false', beq_iff_eq, bne_iff_ne, beq_eq_false_iff_ne, bne_eq_false_iff_eq, Int.not_lt, Int.not_le, gt_iff_lt, ge_iff_le, ne_eq] at h6
                refine XL_skip 48 rfl rfl rfl rfl rfl ?_
                refine XL_skip 48 rfl rfl rfl rfl rfl ?_
                refine XL_skip 48 rfl rfl rfl rfl rfl ?_
                refine XL_skip 48 rfl rfl rfl rfl rfl ?_
                refine XL_det .no (D_pure rfl) rfl ?_
                refine XL_det .no (D_pure rfl) rfl ?_
                refine XL_skip 54 rfl rfl rfl rfl rfl ?_
                refine XL_skip 54 rfl rfl rfl rfl rfl ?_
                refine XL_skip 54 rfl rfl rfl rfl rfl ?_
                refine XL_skip 54 rfl rfl rfl rfl rfl ?_
                refine XL_skip 54 rfl rfl rfl rfl rfl ?_
                refine XL_det .no (D_pure rfl) rfl ?_
                refine XL_then ?_
                refine X_cond_t rfl rfl ?_
                refine X_exit ?_
                refine thenX_exit ?_
                refine inBlk_here ?_
                refine thenX_normal ?_
                refine X_region ?_
                refine XL_det .no (D_pure rfl) rfl ?_
                refine XL_det .no (D_add rfl rfl (by omega) (by omega)) rfl ?_
                refine XL_det .no (D_pure rfl) rfl ?_
                refine XL_nil ?_
                refine loopQ_next (i + 1, fr, a) ?_ ?_ ?_ ?_
                · dsimp only; refine ⟨by omega, hfr, hown, hal, ?_⟩; rw [hsec, secs_n hget (by omega) (cutS_n hj (by omega))]
                · dsimp only; omega
                · refine ⟨?_, ?_, ?_, ?_, ?_, ?_, trivial⟩ <;> rfl
                · dsimp only; exact ⟨_, (by repeat first | with_reducible exact .nil _ | with_reducible exact .here _ _ | with_reducible exact Take.self _ | with_reducible apply Take.cons | with_reducible apply Out.there | with_reducible apply Take.skip)⟩
              · try simp only [decide_eq_true_eq, decide_eq_false_iff_not, Bool.not_eq_true', Bool.not_eq_false', beq_iff_eq, bne_iff_ne, beq_eq_false_iff_ne, bne_eq_false_iff_eq, Int.not_lt, Int.not_le, gt_iff_lt, ge_iff_le, ne_eq] at h6
                refine XL_det (.yes 48 rfl rfl rfl) (D_fld rfl fld_78_1 (o' := 1) rfl) rfl ?_
                refine XL_det (.yes 48 rfl rfl rfl) (D_ldo rfl (by repeat first | with_reducible exact .here _ _ | with_reducible apply Out.there) tk_3 (by rfl)) rfl ?_
                refine XL_det (.yes 48 rfl rfl rfl) (D_pure rfl) rfl ?_
                refine XL_det (.yes 48 rfl rfl rfl) (D_pure rfl) rfl ?_
                refine XL_det .no (D_pure rfl) rfl ?_
                refine XL_det .no (D_pure rfl) rfl ?_
                refine XL_split (t := 54) rfl (fun h7 => ?_) (fun h7 => ?_)
                · try simp only [decide_eq_true_eq, decide_eq_false_iff_not, Bool.not_eq_true', Bool.not_eq_false', beq_iff_eq, bne_iff_ne, beq_eq_false_iff_ne, bne_eq_false_iff_eq, Int.not_lt, Int.not_le, gt_iff_lt, ge_iff_le, ne_eq] at h7
                  refine XL_skip 54 rfl rfl rfl rfl rfl ?_
                  refine XL_skip 54 rfl rfl rfl rfl rfl ?_
                  refine XL_skip 54 rfl rfl rfl rfl rfl ?_
                  refine XL_skip 54 rfl rfl rfl rfl rfl ?_
                  refine XL_skip 54 rfl rfl rfl rfl rfl ?_
                  refine XL_det .no (D_pure rfl) rfl ?_
                  refine XL_then ?_
                  refine X_cond_t rfl rfl ?_
                  refine X_exit ?_
                  refine thenX_exit ?_
                  refine inBlk_here ?_
                  refine thenX_normal ?_
                  refine X_region ?_
                  refine XL_det .no (D_pure rfl) rfl ?_
                  refine XL_det .no (D_add rfl rfl (by omega) (by omega)) rfl ?_
                  refine XL_det .no (D_pure rfl) rfl ?_
                  refine XL_nil ?_
                  refine loopQ_next (i + 1, fr, a) ?_ ?_ ?_ ?_
                  · dsimp only; refine ⟨by omega, hfr, hown, hal, ?_⟩; rw [hsec, secs_n hget (by omega) (cutS_n hj (by omega))]
                  · dsimp only; omega
                  · refine ⟨?_, ?_, ?_, ?_, ?_, ?_, trivial⟩ <;> rfl
                  · dsimp only; exact ⟨_, (by repeat first | with_reducible exact .nil _ | with_reducible exact .here _ _ | with_reducible exact Take.self _ | with_reducible apply Take.cons | with_reducible apply Out.there | with_reducible apply Take.skip)⟩
                · try simp only [decide_eq_true_eq, decide_eq_false_iff_not, Bool.not_eq_true', Bool.not_eq_false', beq_iff_eq, bne_iff_ne, beq_eq_false_iff_ne, bne_eq_false_iff_eq, Int.not_lt, Int.not_le, gt_iff_lt, ge_iff_le, ne_eq] at h7
                  refine XL_det (.yes 54 rfl rfl rfl) (D_fld rfl fld_78_2 (o' := 2) rfl) rfl ?_
                  refine XL_det (.yes 54 rfl rfl rfl) (D_ldo rfl (by repeat first | with_reducible exact .here _ _ | with_reducible apply Out.there) tk_3 (by rfl)) rfl ?_
                  refine XL_det (.yes 54 rfl rfl rfl) (D_fld rfl fld_78_1 (o' := 1) rfl) rfl ?_
                  refine XL_det (.yes 54 rfl rfl rfl) (D_ldo rfl (by repeat first | with_reducible exact .here _ _ | with_reducible apply Out.there) tk_3 (by rfl)) rfl ?_
                  refine XL_det (.yes 54 rfl rfl rfl) (D_pure rfl) rfl ?_
                  refine XL_det .no (D_pure rfl) rfl ?_
                  refine XL_then ?_
                  refine X_cond rfl (fun h8 => ?_) (fun h8 => ?_)
                  · try simp only [decide_eq_true_eq, decide_eq_false_iff_not, Bool.not_eq_true', Bool.not_eq_false', beq_iff_eq, bne_iff_ne, beq_eq_false_iff_ne, bne_eq_false_iff_eq, Int.not_lt, Int.not_le, gt_iff_lt, ge_iff_le, ne_eq] at h8
                    refine X_exit ?_
                    refine thenX_exit ?_
                    refine inBlk_here ?_
                    refine thenX_normal ?_
                    refine X_region ?_
                    refine XL_det .no (D_pure rfl) rfl ?_
                    refine XL_det .no (D_add rfl rfl (by omega) (by omega)) rfl ?_
                    refine XL_det .no (D_pure rfl) rfl ?_
                    refine XL_nil ?_
                    refine loopQ_next (i + 1, fr, a) ?_ ?_ ?_ ?_
                    · dsimp only; refine ⟨by omega, hfr, hown, hal, ?_⟩; rw [hsec, secs_n hget (by omega) (cutS_n hj (by omega))]
                    · dsimp only; omega
                    · refine ⟨?_, ?_, ?_, ?_, ?_, ?_, trivial⟩ <;> rfl
                    · dsimp only; exact ⟨_, (by repeat first | with_reducible exact .nil _ | with_reducible exact .here _ _ | with_reducible exact Take.self _ | with_reducible apply Take.cons | with_reducible apply Out.there | with_reducible apply Take.skip)⟩
                  · try simp only [decide_eq_true_eq, decide_eq_false_iff_not, Bool.not_eq_true', Bool.not_eq_false', beq_iff_eq, bne_iff_ne, beq_eq_false_iff_ne, bne_eq_false_iff_eq, Int.not_lt, Int.not_le, gt_iff_lt, ge_iff_le, ne_eq] at h8
                    refine X_skip ?_
                    refine thenX_normal ?_
                    refine X_seq ?_
                    refine X_region ?_
                    refine XL_det .no (D_fld rfl fld_78_2 (o' := 2) rfl) rfl ?_
                    refine XL_det .no (D_ldo rfl (by repeat first | with_reducible exact .here _ _ | with_reducible apply Out.there) tk_3 (by rfl)) rfl ?_
                    refine XL_det .no (D_pure rfl) rfl ?_
                    refine XL_callv .no en_39 rfl (rleast _ _) rfl ?_
                    refine XL_det .no (D_fld rfl fld_78_2 (o' := 2) rfl) rfl ?_
                    refine XL_efd .no (F_stl rfl rfl rfl (by repeat first | with_reducible exact .here _ _ | with_reducible apply Out.there) tk_3 (by repeat first | exact .zero _ _ _ | apply SetL.succ)) ?_
                    refine XL_then ?_
                    refine X_seq ?_
                    refine X_seq ?_
                    refine X_draw _ mixed (Take.self _) ?_
                    refine XA_det 0 rfl (by kernel_rfl) (by kernel_rfl) (by kernel_rfl) (by kernel_rfl) (fun _ _ _ _ h => h) .no (D_fld rfl fld_78_2 (o' := 2) rfl) rfl ?_
                    refine XA_det 1 rfl (by kernel_rfl) (by kernel_rfl) (by kernel_rfl) (by kernel_rfl) (fun _ _ _ _ h => h) .no (D_ldo rfl (by repeat first | with_reducible exact .here _ _ | with_reducible apply Out.there) tk_3 (by rfl)) rfl ?_
                    refine XA_det 2 rfl (by kernel_rfl) (by kernel_rfl) (by kernel_rfl) (by kernel_rfl) (fun _ _ _ _ h => h) .no (D_fld rfl fld_78_1 (o' := 1) rfl) rfl ?_
                    refine XA_det 3 rfl (by kernel_rfl) (by kernel_rfl) (by kernel_rfl) (by kernel_rfl) (fun _ _ _ _ h => h) .no (D_ldo rfl (by repeat first | with_reducible exact .here _ _ | with_reducible apply Out.there) tk_3 (by rfl)) rfl ?_
                    refine XA_det 4 rfl (by kernel_rfl) (by kernel_rfl) (by kernel_rfl) (by kernel_rfl) (fun _ _ _ _ h => h) .no (D_sub rfl rfl (by omega) (by omega)) rfl ?_
                    refine XA_det 5 rfl (by kernel_rfl) (by kernel_rfl) (by kernel_rfl) (by kernel_rfl) (fun _ _ _ _ h => h) .no (D_fld rfl fld_78_0 (o' := 0) rfl) rfl ?_
                    refine XA_det 6 rfl (by kernel_rfl) (by kernel_rfl) (by kernel_rfl) (by kernel_rfl) (fun _ _ _ _ h => h) .no (D_ldo rfl (by repeat first | with_reducible exact .here _ _ | with_reducible apply Out.there) tk_3 (by rfl)) rfl ?_
                    refine XA_det 7 rfl (by kernel_rfl) (by kernel_rfl) (by kernel_rfl) (by kernel_rfl) (fun _ _ _ _ h => h) .no (D_fld rfl fld_58_3 (o' := 3) rfl) rfl ?_
                    refine XA_det 8 rfl (by kernel_rfl) (by kernel_rfl) (by kernel_rfl) (by kernel_rfl) (fun _ _ _ _ h => h) .no (D_idxA rfl rfl arr_56 hj (by omega) rfl) rfl ?_
                    refine XA_det 9 rfl (by kernel_rfl) (by kernel_rfl) (by kernel_rfl) (by kernel_rfl) (fun _ _ _ _ h => h) .no (D_ldo rfl (by repeat first | with_reducible exact .here _ _ | with_reducible apply Out.there) tk_3 (encT_get (by omega))) rfl ?_
                    refine XA_det 10 rfl (by kernel_rfl) (by kernel_rfl) (by kernel_rfl) (by kernel_rfl) (fun _ _ _ _ h => h) .no (D_pure rfl) rfl ?_
                    refine XA_done (by kernel_rfl) ?_
                    try simp only [List.cons_append, List.nil_append, List.append_nil]
                    refine thenX_normal ?_
                    refine X_cond rfl (fun h9 => ?_) (fun h9 => ?_)
                    · try simp only [decide_eq_true_eq, decide_eq_false_iff_not, Bool.not_eq_true', Bool.not_eq_false', beq_iff_eq, bne_iff_ne, beq_eq_false_iff_ne, bne_eq_false_iff_eq, Int.not_lt, Int.not_le, gt_iff_lt, ge_iff_le, ne_eq] at h9
                      have hcs : cutS T cost fr s = some (s.1, s.2.1, s.2.1 + T (3 + j)) := by rw [cutS_s hj (by omega) (by omega), if_pos (by omega)]
                      refine X_draw _ mixed (Take.self _) ?_
                      refine XA_det 0 rfl (by kernel_rfl) (by kernel_rfl) (by kernel_rfl) (by kernel_rfl) (fun _ _ _ _ h => h) .no (D_fld rfl fld_78_1 (o' := 1) rfl) rfl ?_
                      refine XA_det 1 rfl (by kernel_rfl) (by kernel_rfl) (by kernel_rfl) (by kernel_rfl) (fun _ _ _ _ h => h) .no (D_ldo rfl (by repeat first | with_reducible exact .here _ _ | with_reducible apply Out.there) tk_3 (by rfl)) rfl ?_
                      refine XA_det 2 rfl (by kernel_rfl) (by kernel_rfl) (by kernel_rfl) (by kernel_rfl) (fun _ _ _ _ h => h) .no (D_fld rfl fld_78_0 (o' := 0) rfl) rfl ?_
                      refine XA_det 3 rfl (by kernel_rfl) (by kernel_rfl) (by kernel_rfl) (by kernel_rfl) (fun _ _ _ _ h => h) .no (D_ldo rfl (by repeat first | with_reducible exact .here _ _ | with_reducible apply Out.there) tk_3 (by rfl)) rfl ?_
                      refine XA_det 4 rfl (by kernel_rfl) (by kernel_rfl) (by kernel_rfl) (by kernel_rfl) (fun _ _ _ _ h => h) .no (D_fld rfl fld_58_3 (o' := 3) rfl) rfl ?_
                      refine XA_det 5 rfl (by kernel_rfl) (by kernel_rfl) (by kernel_rfl) (by kernel_rfl) (fun _ _ _ _ h => h) .no (D_idxA rfl rfl arr_56 hj (by omega) rfl) rfl ?_
                      refine XA_det 6 rfl (by kernel_rfl) (by kernel_rfl) (by kernel_rfl) (by kernel_rfl) (fun _ _ _ _ h => h) .no (D_ldo rfl (by repeat first | with_reducible exact .here _ _ | with_reducible apply Out.there) tk_3 (encT_get (by omega))) rfl ?_
                      refine XA_det 7 rfl (by kernel_rfl) (by kernel_rfl) (by kernel_rfl) (by kernel_rfl) (fun _ _ _ _ h => h) .no (D_add rfl rfl (by omega) (by omega)) rfl ?_
                      refine XA_det 8 rfl (by kernel_rfl) (by kernel_rfl) (by kernel_rfl) (by kernel_rfl) (fun _ _ _ _ h => h) .no (D_fld rfl fld_78_2 (o' := 2) rfl) rfl ?_
                      refine XA_one 9 (by kernel_rfl) ?_
                      refine XO_efd rfl .no (by repeat first | with_reducible exact .nil _ | with_reducible apply App.cons) (F_stl rfl rfl rfl (by repeat first | with_reducible exact .here _ _ | with_reducible apply Out.there) tk_3 (by repeat first | exact .zero _ _ _ | apply SetL.succ)) (by kernel_rfl) ?_
                      refine XA_done (by kernel_rfl) ?_
                      try simp only [List.cons_append, List.nil_append, List.append_nil]
                      refine thenX_normal ?_
                      refine X_seq ?_
                      refine X_region ?_
                      refine XL_det .no (D_pure rfl) rfl ?_
                      refine XL_det .no (D_ldso rfl (by repeat first | with_reducible exact .here _ _ | with_reducible apply Out.there) tk_78 rfl (by rfl)) rfl ?_
                      refine XL_bslice (cs := encS (s.1, s.2.1, s.2.1 + T (3 + j))) .no rfl slt_59 (by decide) (by decide) (by rfl) (by rfl) rfl rfl (fun b3 => ?_)
                      refine XL_append (K := blk b3 (encS (s.1, s.2.1, s.2.1 + T (3 + j))) 78) (news := encS (s.1, s.2.1, s.2.1 + T (3 + j))) .no rfl rfl slt_59 (by repeat first | with_reducible exact .here _ _ | with_reducible apply Out.there) (by repeat first | with_reducible exact .here _ _ | with_reducible apply Out.there) (Rd_blk0) (by rfl) (by simp [Value.oneCell']) (by unfold maxLen; omega) (by omega) rfl (fun v2 hv2 => ?_)
                      rw [flat_app]
                      refine XL_learn (fun w h => row_arr (l := a.l ++ [(s.1, s.2.1, s.2.1 + T (3 + j))]) (enc := encS) h (by repeat first | with_reducible exact .here _ _ | with_reducible apply Out.there) (by simp)) ?_
                      rintro ⟨a2, ha2, hown2, rfl⟩
                      rw [show a.l.length + 1 = a2.l.length from by rw [ha2]; simp, ← ha2]
                      refine XL_det .no (D_pure rfl) rfl ?_
                      refine XL_then ?_
                      refine X_region ?_
                      refine XL_det .no (D_fld rfl fld_78_2 (o' := 2) rfl) rfl ?_
                      refine XL_det .no (D_ldo rfl (by repeat first | with_reducible exact .here _ _ | with_reducible apply Out.there) tk_3 (by rfl)) rfl ?_
                      refine XL_det .no (D_pure rfl) rfl ?_
                      refine XL_nil ?_
                      refine inBlk_normal ?_
                      refine thenX_normal ?_
                      refine X_region ?_
                      refine XL_det .no (D_pure rfl) rfl ?_
                      refine XL_det .no (D_add rfl rfl (by omega) (by omega)) rfl ?_
                      refine XL_det .no (D_pure rfl) rfl ?_
                      refine XL_nil ?_
                      refine loopQ_next (i + 1, s.2.1 + T (3 + j), a2) ?_ ?_ ?_ ?_
                      · dsimp only; refine ⟨by omega, (cut_to hT hcs hfr).1, hown2, by rw [ha2, List.length_append]; show a.l.length + 1 ≤ 8; omega, ?_⟩; rw [hsec, secs_s hget (by omega) hcs, ha2, List.append_assoc, List.length_append]; rfl
                      · dsimp only; omega
                      · refine ⟨?_, ?_, ?_, ?_, ?_, ?_, trivial⟩ <;> rfl
                      · dsimp only; exact ⟨_, (by repeat first | with_reducible exact .nil _ | with_reducible exact .here _ _ | with_reducible exact Take.self _ | with_reducible apply Take.cons | with_reducible apply Out.there | with_reducible apply Take.skip)⟩
                    · try simp only [decide_eq_true_eq, decide_eq_false_iff_not, Bool.not_eq_true', Bool.not_eq_false', beq_iff_eq, bne_iff_ne, beq_eq_false_iff_ne, bne_eq_false_iff_eq, Int.not_lt, Int.not_le, gt_iff_lt, ge_iff_le, ne_eq] at h9
                      have hcs : cutS T cost fr s = some (s.1, s.2.1, min s.2.2 cost) := by rw [cutS_s hj (by omega) (by omega), if_neg (by omega)]
                      refine X_skip ?_
                      refine thenX_normal ?_
                      refine X_seq ?_
                      refine X_region ?_
                      refine XL_det .no (D_pure rfl) rfl ?_
                      refine XL_det .no (D_ldso rfl (by repeat first | with_reducible exact .here _ _ | with_reducible apply Out.there) tk_78 rfl (by rfl)) rfl ?_
                      refine XL_bslice (cs := encS (s.1, s.2.1, min s.2.2 cost)) .no rfl slt_59 (by decide) (by decide) (by rfl) (by rfl) rfl rfl (fun b4 => ?_)
                      refine XL_append (K := blk b4 (encS (s.1, s.2.1, min s.2.2 cost)) 78) (news := encS (s.1, s.2.1, min s.2.2 cost)) .no rfl rfl slt_59 (by repeat first | with_reducible exact .here _ _ | with_reducible apply Out.there) (by repeat first | with_reducible exact .here _ _ | with_reducible apply Out.there) (Rd_blk0) (by rfl) (by simp [Value.oneCell']) (by unfold maxLen; omega) (by omega) rfl (fun v2 hv2 => ?_)
                      rw [flat_app]
                      refine XL_learn (fun w h => row_arr (l := a.l ++ [(s.1, s.2.1, min s.2.2 cost)]) (enc := encS) h (by repeat first | with_reducible exact .here _ _ | with_reducible apply Out.there) (by simp)) ?_
                      rintro ⟨a2, ha2, hown2, rfl⟩
                      rw [show a.l.length + 1 = a2.l.length from by rw [ha2]; simp, ← ha2]
                      refine XL_det .no (D_pure rfl) rfl ?_
                      refine XL_then ?_
                      refine X_region ?_
                      refine XL_det .no (D_fld rfl fld_78_2 (o' := 2) rfl) rfl ?_
                      refine XL_det .no (D_ldo rfl (by repeat first | with_reducible exact .here _ _ | with_reducible apply Out.there) tk_3 (by rfl)) rfl ?_
                      refine XL_det .no (D_pure rfl) rfl ?_
                      refine XL_nil ?_
                      refine inBlk_normal ?_
                      refine thenX_normal ?_
                      refine X_region ?_
                      refine XL_det .no (D_pure rfl) rfl ?_
                      refine XL_det .no (D_add rfl rfl (by omega) (by omega)) rfl ?_
                      refine XL_det .no (D_pure rfl) rfl ?_
                      refine XL_nil ?_
                      refine loopQ_next (i + 1, min s.2.2 cost, a2) ?_ ?_ ?_ ?_
                      · dsimp only; refine ⟨by omega, (cut_to hT hcs hfr).1, hown2, by rw [ha2, List.length_append]; show a.l.length + 1 ≤ 8; omega, ?_⟩; rw [hsec, secs_s hget (by omega) hcs, ha2, List.append_assoc, List.length_append]; rfl
                      · dsimp only; omega
                      · refine ⟨?_, ?_, ?_, ?_, ?_, ?_, trivial⟩ <;> rfl
                      · dsimp only; exact ⟨_, (by repeat first | with_reducible exact .nil _ | with_reducible exact .here _ _ | with_reducible exact Take.self _ | with_reducible apply Take.cons | with_reducible apply Out.there | with_reducible apply Take.skip)⟩
      · try simp only [decide_eq_true_eq, decide_eq_false_iff_not, Bool.not_eq_true', Bool.not_eq_false', beq_iff_eq, bne_iff_ne, beq_eq_false_iff_ne, bne_eq_false_iff_eq, Int.not_lt, Int.not_le, gt_iff_lt, ge_iff_le, ne_eq] at h2
        refine X_exit ?_
        refine thenX_exit ?_
        refine loopQ_exit ?_
        refine inBlk_here ?_
        refine thenX_normal ?_
        refine X_seq ?_
        refine X_region ?_
        refine XL_det .no (D_pure rfl) rfl ?_
        refine XL_det .no (D_pure rfl) rfl ?_
        refine XL_then ?_
        refine X_ret ?_
        refine ret_ok (.nil _) (res_tmp rfl rfl) ?_
        exact ⟨[row (.slice a.oad a.l.length a.c) 78 3 a.l.length (a.l.flatMap encS), K], ⟨a, ⟨by rw [hsec, show a.l.length = 8 by omega, secs_8, List.append_nil], hown⟩, rfl, rfl⟩, _, (by repeat first | with_reducible exact .nil _ | with_reducible exact .here _ _ | with_reducible exact Take.self _ | with_reducible apply Take.cons | with_reducible apply Out.there | with_reducible apply Take.skip)⟩
    · try simp only [decide_eq_true_eq, decide_eq_false_iff_not, Bool.not_eq_true', Bool.not_eq_false', beq_iff_eq, bne_iff_ne, beq_eq_false_iff_ne, bne_eq_false_iff_eq, Int.not_lt, Int.not_le, gt_iff_lt, ge_iff_le, ne_eq] at h1
      refine XL_skip 15 rfl rfl rfl rfl rfl ?_
      refine XL_skip 15 rfl rfl rfl rfl rfl ?_
      refine XL_skip 15 rfl rfl rfl rfl rfl ?_
      refine XL_det .no (D_pure rfl) rfl ?_
      refine XL_then ?_
      refine X_cond_f rfl rfl ?_
      refine X_exit ?_
      refine thenX_exit ?_
      refine loopQ_exit ?_
      refine inBlk_here ?_
      refine thenX_normal ?_
      refine X_seq ?_
      refine X_region ?_
      refine XL_det .no (D_pure rfl) rfl ?_
      refine XL_det .no (D_pure rfl) rfl ?_
      refine XL_then ?_
      refine X_ret ?_
      refine ret_ok (.nil _) (res_tmp rfl rfl) ?_
      exact ⟨[row (.slice a.oad a.l.length a.c) 78 3 a.l.length (a.l.flatMap encS), K], ⟨a, ⟨by rw [hsec, List.drop_of_length_le (by omega), secs, List.append_nil], hown⟩, rfl, rfl⟩, _, (by repeat first | with_reducible exact .nil _ | with_reducible exact .here _ _ | with_reducible exact Take.self _ | with_reducible apply Take.cons | with_reducible apply Out.there | with_reducible apply Take.skip)⟩

theorem jnew (id now : Int) (T : Nat → Int) (cost : Int) (l : Arr Sec) (hl : Rd K l.ad (l.l.flatMap encS)) (hT : ∀ j, j < 8 → 0 ≤ T (3 + j)) (hn0 : -9223372036854775808 ≤ now + T 1) (hn1 : now + T 1 ≤ 9223372036854775807) (hc : (min (max cost 1) (T 2)) ≤ 9223372036854775807) : Ctr Try.prog B 25 [.int .i64 id, tV T, .int .i64 now, .int .i64 cost, .slice l.oad l.l.length l.c] [K] (fun v S => ∃ x : Arr Sec, (x.l = secs T (min (max cost 1) (T 2)) 0 0 l.l ∧ x.Own) ∧ v = .agg #[.int .i64 id, .int .i64 now, .int .i64 (now + T 1), .int .i64 (min (max cost 1) (T 2)), .int .i64 0, .slice x.oad x.l.length x.c] ∧ S = [row (.slice x.oad x.l.length x.c) 78 3 x.l.length (x.l.flatMap encS)] ++ [K]) := by
  refine Ctr_of_X (N := 38) Try.func25 rfl (by simp) rfl ?_
  intro w0 D0
  refine X_seq ?_
  refine X_region ?_
  refine XL_box .no rfl rfl rfl (fun b1 => ?_)
  refine XL_alloc .no zero_67 rfl (fun b2 => ?_)
  refine XL_then ?_
  refine X_seq ?_
  refine X_region ?_
  refine XL_det .no (D_pure rfl) rfl ?_
  refine XL_det .no (D_pure rfl) rfl ?_
  refine XL_det .no (D_pure rfl) rfl ?_
  refine XL_det .no (D_fld rfl fld_58_1 (o' := 1) rfl) rfl ?_
  refine XL_det .no (D_ldo rfl (by repeat first | with_reducible exact .here _ _ | with_reducible apply Out.there) tk_3 (by rfl)) rfl ?_
  refine XL_det .no (D_add rfl rfl (by omega) (by omega)) rfl ?_
  refine XL_det .no (D_pure rfl) rfl ?_
  refine XL_det .no (D_max rfl rfl) rfl ?_
  refine XL_det .no (D_fld rfl fld_58_2 (o' := 2) rfl) rfl ?_
  refine XL_det .no (D_ldo rfl (by repeat first | with_reducible exact .here _ _ | with_reducible apply Out.there) tk_3 (by rfl)) rfl ?_
  refine XL_det .no (D_min rfl rfl) rfl ?_
  refine XL_det .no (D_build [_, _, _, _, _, _] rfl bld_67 (by rfl)) rfl ?_
  refine XL_alloc .no zero_67 rfl (fun b3 => ?_)
  refine XL_efd .no (F_stw rfl rfl rfl (by repeat first | with_reducible exact .here _ _ | with_reducible apply Out.there) tk_67 rfl rfl) ?_
  refine XL_then ?_
  refine X_seq ?_
  refine X_seq ?_
  refine X_region ?_
  refine XL_det .no (D_ldso rfl (by repeat first | with_reducible exact .here _ _ | with_reducible apply Out.there) tk_58 rfl (by rfl)) rfl ?_
  refine XL_det .no (D_fld rfl fld_67_3 (o' := 3) rfl) rfl ?_
  refine XL_det .no (D_ldo rfl (by repeat first | with_reducible exact .here _ _ | with_reducible apply Out.there) tk_3 (by rfl)) rfl ?_
  refine XL_det .no (D_pure rfl) rfl ?_
  refine XL_call .no en_38 rfl (jsections T (min (max cost 1) (T 2)) l) (by repeat first | with_reducible exact .nil _ | with_reducible exact .here _ _ | with_reducible exact Take.self _ | with_reducible apply Take.cons | with_reducible apply Out.there | with_reducible apply Take.skip) rfl ?_
  rintro _ _ ⟨ba, bt, bc, rfl, rfl⟩
  simp only [List.cons_append, List.nil_append]
  refine XL_then ?_
  refine X_block ?_
  refine X_rownil 78 3 ?_
  refine X_range (own := [blk ba [.slice l.oad l.l.length l.c] 59, blk bt (encT T) 58, blk bc [.int .i64 (min (max cost 1) (T 2))] 3, K]) (S1 := [blk b3 [.int .i64 id, .int .i64 now, .int .i64 (now + T 1), .int .i64 (min (max cost 1) (T 2)), .int .i64 0, .slice none 0 0] 67, row (.slice none 0 0) 78 3 0 []]) rfl en_41 (jitr ba bt bc T _ l hl hT hc) (fun i S => ∃ a : Arr Sec, a.l = (secs T (min (max cost 1) (T 2)) 0 0 l.l).take i ∧ a.Own ∧ S = [blk b3 [.int .i64 id, .int .i64 now, .int .i64 (now + T 1), .int .i64 (min (max cost 1) (T 2)), .int .i64 0, .slice a.oad a.l.length a.c] 67, row (.slice a.oad a.l.length a.c) 78 3 a.l.length (a.l.flatMap encS)]) (fun c i S => False) (show Take [blk ba [.slice l.oad l.l.length l.c] 59, blk bt (encT T) 58, blk bc [.int .i64 (min (max cost 1) (T 2))] 3, K, blk b3 [.int .i64 id, .int .i64 now, .int .i64 (now + T 1), .int .i64 (min (max cost 1) (T 2)), .int .i64 0, .slice none 0 0] 67, row (.slice none 0 0) 78 3 0 []] _ _ from (by repeat first | with_reducible exact .nil _ | with_reducible exact .here _ _ | with_reducible exact Take.self _ | with_reducible apply Take.cons | with_reducible apply Out.there | with_reducible apply Take.skip)) (⟨⟨none, 0, [], fun _ => rfl, by decide⟩, rfl, (by intro _ h; cases h), rfl⟩) rfl (fun x hx => by obtain ⟨y, _, rfl⟩ := List.mem_map.1 hx; rfl) ?_ ?_ ?_
  · intro ly rec A2 i S2 hi hJ
    obtain ⟨a, ha, hown, rfl⟩ := hJ
    rw [List.length_map] at hi
    obtain ⟨c, hget⟩ : ∃ c, (secs T (min (max cost 1) (T 2)) 0 0 l.l)[i]? = some c := ⟨_, List.getElem?_eq_getElem hi⟩
    have h8 := secs_len (T := T) (cost := (min (max cost 1) (T 2))) l.l 0 0 (by decide)
    have hal : a.l.length = i := by rw [ha, List.length_take]; omega
    rw [show ((secs T (min (max cost 1) (T 2)) 0 0 l.l).map fun s => [secV s]).getD i [] = [secV c] from by simp [List.getD, hget]]
    refine X_region ?_
    refine XL_alloc .no zero_78 rfl (fun b4 => ?_)
    refine XL_efd .no (F_stw rfl rfl rfl (by repeat first | with_reducible exact .here _ _ | with_reducible apply Out.there) tk_78 rfl rfl) ?_
    refine XL_nil ?_
    refine ⟨rfl, _, _, .cons (by repeat first | with_reducible exact .here _ _ | with_reducible apply Out.there) (Take.self _), fun rec2 => ?_⟩
    refine X_block ?_
    refine X_region ?_
    refine XL_det .no (D_fld rfl fld_67_5 (o' := 5) rfl) rfl ?_
    refine XL_det .no (D_ldo rfl (by repeat first | with_reducible exact .here _ _ | with_reducible apply Out.there) tk_59 (by rfl)) rfl ?_
    refine XL_det .no (D_ldso rfl (by repeat first | with_reducible exact .here _ _ | with_reducible apply Out.there) tk_78 rfl (by rfl)) rfl ?_
    refine XL_bslice (cs := encS c) .no rfl slt_59 (by decide) (by decide) (by rfl) (by rfl) rfl rfl (fun b5 => ?_)
    refine XL_append (K := blk b5 (encS c) 78) (news := encS c) .no rfl rfl slt_59 (by repeat first | with_reducible exact .here _ _ | with_reducible apply Out.there) (by repeat first | with_reducible exact .here _ _ | with_reducible apply Out.there) (Rd_blk0) (by rfl) (by simp [Value.oneCell']) (by unfold maxLen; omega) (by omega) rfl (fun v2 hv2 => ?_)
    rw [flat_app]
    refine XL_learn (fun w h => row_arr (l := a.l ++ [c]) (enc := encS) h (by repeat first | with_reducible exact .here _ _ | with_reducible apply Out.there) (by simp)) ?_
    rintro ⟨a2, ha2, hown2, rfl⟩
    rw [show a.l.length + 1 = a2.l.length from by rw [ha2]; simp, ← ha2]
    refine XL_det .no (D_fld rfl fld_67_5 (o' := 5) rfl) rfl ?_
    refine XL_efd .no (F_stl rfl rfl rfl (by repeat first | with_reducible exact .here _ _ | with_reducible apply Out.there) tk_59 (by repeat first | exact .zero _ _ _ | apply SetL.succ)) ?_
    refine XL_nil ?_
    refine inBlk_normal ?_
    exact ⟨[blk b3 [.int .i64 id, .int .i64 now, .int .i64 (now + T 1), .int .i64 (min (max cost 1) (T 2)), .int .i64 0, .slice a2.oad a2.l.length a2.c] 67, row (.slice a2.oad a2.l.length a2.c) 78 3 a2.l.length (a2.l.flatMap encS)], _, (by repeat first | with_reducible exact .nil _ | with_reducible exact .here _ _ | with_reducible exact Take.self _ | with_reducible apply Take.cons | with_reducible apply Out.there | with_reducible apply Take.skip), ⟨a2, by rw [ha2, ha, List.take_add_one, hget]; rfl, hown2, rfl⟩⟩
  · intro dd0 S2 hJ
    obtain ⟨a, ha, hown, rfl⟩ := hJ
    rw [List.length_map, List.take_length] at ha
    simp only [List.cons_append, List.nil_append]
    refine inBlk_normal ?_
    refine thenX_normal ?_
    refine X_seq ?_
    refine X_region ?_
    refine XL_det .no (D_ldso rfl (by repeat first | with_reducible exact .here _ _ | with_reducible apply Out.there) tk_67 rfl (by rfl)) rfl ?_
    refine XL_efd .no (F_stw rfl rfl rfl (by repeat first | with_reducible exact .here _ _ | with_reducible apply Out.there) tk_67 rfl rfl) ?_
    refine XL_then ?_
    refine X_ret ?_
    refine ret_ok (show Take [dfr dd0] _ _ from (by repeat first | with_reducible exact .nil _ | with_reducible exact .here _ _ | with_reducible exact Take.self _ | with_reducible apply Take.cons | with_reducible apply Out.there | with_reducible apply Take.skip)) (res_cell rfl rfl (by repeat first | with_reducible exact .here _ _ | with_reducible apply Out.there) tk_67 (by rfl)) ?_
    exact ⟨[row (.slice a.oad a.l.length a.c) 78 3 a.l.length (a.l.flatMap encS), K], ⟨a, ⟨ha, hown⟩, rfl, rfl⟩, _, (by repeat first | with_reducible exact .nil _ | with_reducible exact .here _ _ | with_reducible exact Take.self _ | with_reducible apply Take.cons | with_reducible apply Out.there | with_reducible apply Take.skip)⟩
  · intro dd0 c i S2 hi h
    exact h.elim


abbrev T25 : Nat → Int := fun k => [10, 10, 4, 2].getD k 0
def lit1 (b : Nat) (x : Sec) : Arr Sec := ⟨some ⟨b, 0, none⟩, 1, [x], (by intro h; cases h), by simp⟩
theorem row_yes {Ka Kb : Asrt B} {f : Nat} {args : List Value} {p : Prop} [Decidable p] (h : Ctr Try.prog B f args [Ka, Kb] (fun v S => v = .bool (decide p) ∧ S = [Ka, Kb])) (hp : p) : Ctr Try.prog B f args [Ka, Kb] (fun v S => v = .bool true ∧ S = [Ka, Kb]) :=
  h.mono fun v S ⟨h1, h2⟩ => ⟨by rw [h1, decide_eq_true hp], h2⟩

theorem alive25  : Ctr Try.prog B 24 [] [] (fun v S => v = .bool true ∧ S = []) := by
  refine Ctr_of_X (N := 30) Try.func24 rfl (by simp) rfl ?_
  intro w0 D0
  refine X_seq ?_
  refine X_region ?_
  refine XL_det .no (D_pure rfl) rfl ?_
  refine XL_then ?_
  refine X_seq ?_
  refine X_region ?_
  refine XL_det .no (D_build [_, _, _, _, _, _, _, _, _, _, _] rfl bld_58 (by rfl)) rfl ?_
  refine XL_alloc .no zero_58 rfl (fun b1 => ?_)
  refine XL_efd .no (F_stw rfl rfl rfl (by repeat first | with_reducible exact .here _ _ | with_reducible apply Out.there) tk_58 rfl rfl) ?_
  refine XL_then ?_
  refine X_seq ?_
  refine X_region ?_
  refine XL_det .no (D_fld rfl fld_58_3 (o' := 3) rfl) rfl ?_
  refine XL_det .no (D_idxA rfl rfl arr_56 (rfl : (0 : Int) = ((0 : Nat) : Int)) (by decide) rfl) rfl ?_
  refine XL_efd .no (F_stl (k := 3) rfl rfl rfl (by repeat first | with_reducible exact .here _ _ | with_reducible apply Out.there) tk_3 (by repeat first | exact .zero _ _ _ | apply SetL.succ)) ?_
  refine XL_then ?_
  refine X_seq ?_
  refine X_region ?_
  refine XL_det .no (D_ldso rfl (by repeat first | with_reducible exact .here _ _ | with_reducible apply Out.there) tk_58 rfl (by rfl)) rfl ?_
  refine XL_det .no (D_build [_, _, _] rfl bld_78 (by rfl)) rfl ?_
  refine XL_bslice (cs := encS (0, 1, 9)) .no rfl slt_59 (by decide) (by decide) (by rfl) (by rfl) rfl rfl (fun b2 => ?_)
  refine XL_call .no en_25 rfl (jnew (K := blk b2 (encS (0, 1, 9)) 78) 3 5 T25 9 (lit1 b2 (0, 1, 9)) Rd_blk0 (by decide) (by decide) (by decide) (by decide)) (by repeat first | with_reducible exact .nil _ | with_reducible exact .here _ _ | with_reducible exact Take.self _ | with_reducible apply Take.cons | with_reducible apply Out.there | with_reducible apply Take.skip) rfl ?_
  rintro _ _ ⟨x, ⟨hx1, hx2⟩, rfl, rfl⟩
  simp only [List.cons_append, List.nil_append]
  refine XL_alloc .no zero_67 rfl (fun b3 => ?_)
  refine XL_efd .no (F_stw rfl rfl rfl (by repeat first | with_reducible exact .here _ _ | with_reducible apply Out.there) tk_67 rfl rfl) ?_
  refine XL_then ?_
  refine X_seq ?_
  refine X_region ?_
  refine XL_det .no (D_fld rfl fld_67_0 (o' := 0) rfl) rfl ?_
  refine XL_det .no (D_ldo rfl (by repeat first | with_reducible exact .here _ _ | with_reducible apply Out.there) tk_3 (by rfl)) rfl ?_
  refine XL_det .no (D_pure (v := .bool true) rfl) rfl ?_
  refine XL_det .no (D_pure rfl) rfl ?_
  refine XL_det (.yes 13 rfl rfl rfl) (D_fld rfl fld_67_3 (o' := 3) rfl) rfl ?_
  refine XL_det (.yes 13 rfl rfl rfl) (D_ldo rfl (by repeat first | with_reducible exact .here _ _ | with_reducible apply Out.there) tk_3 (by rfl)) rfl ?_
  refine XL_det (.yes 13 rfl rfl rfl) (D_pure (v := .bool true) rfl) rfl ?_
  refine XL_det .no (D_pure rfl) rfl ?_
  refine XL_det .no (D_pure rfl) rfl ?_
  refine XL_det (.yes 18 rfl rfl rfl) (D_fld rfl fld_67_2 (o' := 2) rfl) rfl ?_
  refine XL_det (.yes 18 rfl rfl rfl) (D_ldo rfl (by repeat first | with_reducible exact .here _ _ | with_reducible apply Out.there) tk_3 (by rfl)) rfl ?_
  refine XL_det (.yes 18 rfl rfl rfl) (D_pure (v := .bool true) rfl) rfl ?_
  refine XL_det .no (D_pure rfl) rfl ?_
  refine XL_det .no (D_pure rfl) rfl ?_
  refine XL_det (.yes 23 rfl rfl rfl) (D_fld rfl fld_67_5 (o' := 5) rfl) rfl ?_
  refine XL_det (.yes 23 rfl rfl rfl) (D_ldo rfl (by repeat first | with_reducible exact .here _ _ | with_reducible apply Out.there) tk_59 (by rfl)) rfl ?_
  refine XL_det (.yes 23 rfl rfl rfl) (D_build [_, _, _] rfl bld_78 (by rfl)) rfl ?_
  refine XL_bslice (cs := encS (0, 1, 3)) (.yes 23 rfl rfl rfl) rfl slt_59 (by decide) (by decide) (by rfl) (by rfl) rfl rfl (fun b4 => ?_)
  refine XL_callk (.yes 23 rfl rfl rfl) en_21 rfl (row_yes (jrow (Kb := blk b4 (encS (0, 1, 3)) 78) x (lit1 b4 (0, 1, 3)) (Rd_own hx2 rfl) Rd_blk0) (hx1.trans rfl)) (by repeat first | with_reducible exact .nil _ | with_reducible exact .here _ _ | with_reducible exact Take.self _ | with_reducible apply Take.cons | with_reducible apply Out.there | with_reducible apply Take.skip) rfl ?_
  refine XL_det .no (D_pure rfl) rfl ?_
  refine XL_det .no (D_pure rfl) rfl ?_
  refine XL_then ?_
  refine X_ret ?_
  refine ret_ok (.nil _) (res_tmp rfl rfl) ?_
  exact ⟨_, ⟨rfl, rfl⟩, _, (by repeat first | with_reducible exact .nil _ | with_reducible exact .here _ _ | with_reducible exact Take.self _ | with_reducible apply Take.cons | with_reducible apply Out.there | with_reducible apply Take.skip)⟩

theorem jobCuts (T : Nat → Int) (cost : Int) (l : Arr Sec) (hl : Rd K l.ad (l.l.flatMap encS)) (hc : cost ≤ 9223372036854775807) : Ctr Try.prog B 6 [tV T, .int .i64 cost, .slice l.oad l.l.length l.c] [K] (fun v S => v = .bool true ∧ S = [K]) := by
  refine Ctr_of_X (N := 27) Try.func6 rfl (by simp) rfl ?_
  intro w0 D0
  refine X_seq ?_
  refine X_region ?_
  refine XL_box .no rfl rfl rfl (fun b1 => ?_)
  refine XL_det .no (D_pure rfl) rfl ?_
  refine XL_then ?_
  refine X_seq ?_
  refine X_seq ?_
  refine X_region ?_
  refine XL_det .no (D_pure rfl) rfl ?_
  refine XL_det .no (D_len rfl rfl slc_59) rfl ?_
  refine XL_det .no (D_pure rfl) rfl ?_
  refine XL_det .no (D_pure rfl) rfl ?_
  refine XL_split (t := 10) rfl (fun h1 => ?_) (fun h1 => ?_)
  · try simp only [decide_eq_true_eq, decide_eq_false_iff_not, Bool.not_eq_true', Bool.not_eq_false', beq_iff_eq, bne_iff_ne, beq_eq_false_iff_ne, bne_eq_false_iff_eq, Int.not_lt, Int.not_le, gt_iff_lt, ge_iff_le, ne_eq] at h1
    refine XL_skip 10 rfl rfl rfl rfl rfl ?_
    refine XL_skip 10 rfl rfl rfl rfl rfl ?_
    refine XL_skip 10 rfl rfl rfl rfl rfl ?_
    refine XL_det .no (D_pure rfl) rfl ?_
    refine XL_then ?_
    refine X_cond_t rfl rfl ?_
    refine X_seq ?_
    refine X_region ?_
    refine XL_det .no (D_pure rfl) rfl ?_
    refine XL_then ?_
    refine X_ret ?_
    refine thenX_ret ?_
    refine ret_ok (.nil _) (res_tmp rfl rfl) ?_
    exact ⟨_, ⟨rfl, rfl⟩, _, (by repeat first | with_reducible exact .nil _ | with_reducible exact .here _ _ | with_reducible exact Take.self _ | with_reducible apply Take.cons | with_reducible apply Out.there | with_reducible apply Take.skip)⟩
  · try simp only [decide_eq_true_eq, decide_eq_false_iff_not, Bool.not_eq_true', Bool.not_eq_false', beq_iff_eq, bne_iff_ne, beq_eq_false_iff_ne, bne_eq_false_iff_eq, Int.not_lt, Int.not_le, gt_iff_lt, ge_iff_le, ne_eq] at h1
    refine XL_det (.yes 10 rfl rfl rfl) (D_ldso rfl (by repeat first | with_reducible exact .here _ _ | with_reducible apply Out.there) tk_58 rfl (by rfl)) rfl ?_
    refine XL_callv (.yes 10 rfl rfl rfl) en_20 rfl (jright T) rfl ?_
    refine XL_det (.yes 10 rfl rfl rfl) (D_pure rfl) rfl ?_
    refine XL_det .no (D_pure rfl) rfl ?_
    refine XL_then ?_
    refine X_cond rfl (fun h2 => ?_) (fun h2 => ?_)
    · try simp only [decide_eq_true_eq, decide_eq_false_iff_not, Bool.not_eq_true', Bool.not_eq_false', beq_iff_eq, bne_iff_ne, beq_eq_false_iff_ne, bne_eq_false_iff_eq, Int.not_lt, Int.not_le, gt_iff_lt, ge_iff_le, ne_eq] at h2
      refine X_seq ?_
      refine X_region ?_
      refine XL_det .no (D_pure rfl) rfl ?_
      refine XL_then ?_
      refine X_ret ?_
      refine thenX_ret ?_
      refine ret_ok (.nil _) (res_tmp rfl rfl) ?_
      exact ⟨_, ⟨rfl, rfl⟩, _, (by repeat first | with_reducible exact .nil _ | with_reducible exact .here _ _ | with_reducible exact Take.self _ | with_reducible apply Take.cons | with_reducible apply Out.there | with_reducible apply Take.skip)⟩
    · try simp only [decide_eq_true_eq, decide_eq_false_iff_not, Bool.not_eq_true', Bool.not_eq_false', beq_iff_eq, bne_iff_ne, beq_eq_false_iff_ne, bne_eq_false_iff_eq, Int.not_lt, Int.not_le, gt_iff_lt, ge_iff_le, ne_eq] at h2
      refine X_skip ?_
      refine thenX_normal ?_
      refine X_seq ?_
      refine X_draw _ mixed (Take.self _) ?_
      refine XA_det 0 rfl (by kernel_rfl) (by kernel_rfl) (by kernel_rfl) (by kernel_rfl) (fun _ _ _ _ h => h) .no (D_ldso rfl (by repeat first | with_reducible exact .here _ _ | with_reducible apply Out.there) tk_58 rfl (by rfl)) rfl ?_
      refine XA_det 1 rfl (by kernel_rfl) (by kernel_rfl) (by kernel_rfl) (by kernel_rfl) (fun _ _ _ _ h => h) .no (D_pure rfl) rfl ?_
      refine XA_det 2 rfl (by kernel_rfl) (by kernel_rfl) (by kernel_rfl) (by kernel_rfl) (fun _ _ _ _ h => h) .no (D_pure rfl) rfl ?_
      refine XA_det 4 rfl (by kernel_rfl) (by kernel_rfl) (by kernel_rfl) (by kernel_rfl) (fun _ _ _ _ h => h) .no (D_ldso rfl (by repeat first | with_reducible exact .here _ _ | with_reducible apply Out.there) tk_58 rfl (by rfl)) rfl ?_
      refine XA_det 5 rfl (by kernel_rfl) (by kernel_rfl) (by kernel_rfl) (by kernel_rfl) (fun _ _ _ _ h => h) .no (D_pure rfl) rfl ?_
      refine XA_det 6 rfl (by kernel_rfl) (by kernel_rfl) (by kernel_rfl) (by kernel_rfl) (fun _ _ _ _ h => h) .no (D_pure rfl) rfl ?_
      refine XA_one 3 (by kernel_rfl) ?_
      refine XO_calln rfl .no en_22 rfl (by repeat first | with_reducible exact .nil _ | with_reducible apply App.cons) (jlist T cost l hl (rightB_all (by simpa using h2)) hc) (by repeat first | with_reducible exact .nil _ | with_reducible exact .here _ _ | with_reducible exact Take.self _ | with_reducible apply Take.cons | with_reducible apply Out.there | with_reducible apply Take.skip) rfl ?_
      rintro x ⟨hx1, hx2⟩
      simp only [List.cons_append, List.nil_append]
      refine XA_one 7 (by kernel_rfl) ?_
      refine XO_calln rfl .no en_23 rfl (by repeat first | with_reducible exact .nil _ | with_reducible apply App.cons) (jref T cost l hl (rightB_all (by simpa using h2)) hc) (by repeat first | with_reducible exact .nil _ | with_reducible exact .here _ _ | with_reducible exact Take.self _ | with_reducible apply Take.cons | with_reducible apply Out.there | with_reducible apply Take.skip) rfl ?_
      rintro y ⟨hy1, hy2⟩
      simp only [List.cons_append, List.nil_append]
      refine XA_one 8 (by kernel_rfl) ?_
      refine XO_callk rfl .no en_21 rfl (by repeat first | with_reducible exact .nil _ | with_reducible apply App.cons) (row_yes (jrow x y (Rd_own hx2 rfl) (Rd_own hy2 rfl)) (hx1.trans hy1.symm)) (by repeat first | with_reducible exact .nil _ | with_reducible exact .here _ _ | with_reducible exact Take.self _ | with_reducible apply Take.cons | with_reducible apply Out.there | with_reducible apply Take.skip) rfl ?_
      refine XA_det 9 rfl (by kernel_rfl) (by kernel_rfl) (by kernel_rfl) (by kernel_rfl) (fun _ _ _ _ h => h) .no (D_pure rfl) rfl ?_
      refine XA_one 10 (by kernel_rfl) ?_
      refine XO_callv rfl (.yes 24 rfl rfl rfl) en_24 rfl (alive25) rfl ?_
      refine XA_det 11 rfl (by kernel_rfl) (by kernel_rfl) (by kernel_rfl) (by kernel_rfl) (fun _ _ _ _ h => h) .no (D_pure rfl) rfl ?_
      refine XA_det 12 rfl (by kernel_rfl) (by kernel_rfl) (by kernel_rfl) (by kernel_rfl) (fun _ _ _ _ h => h) .no (D_pure rfl) rfl ?_
      refine XA_done (by kernel_rfl) ?_
      try simp only [List.cons_append, List.nil_append, List.append_nil]
      refine thenX_normal ?_
      refine X_ret ?_
      refine ret_ok (.nil _) (res_tmp rfl rfl) ?_
      exact ⟨_, ⟨rfl, rfl⟩, _, (by repeat first | with_reducible exact .nil _ | with_reducible exact .here _ _ | with_reducible exact Take.self _ | with_reducible apply Take.cons | with_reducible apply Out.there | with_reducible apply Take.skip)⟩

end Go.Proofs.Ytbejafkklbmaoaa
end

section
namespace Go.Proofs.Ytbejafkklbmaoaa
open Go Go.Sl
set_option linter.unusedVariables false
set_option linter.unusedSimpArgs false
variable {B : Nat} {K : Asrt B}
theorem en_26 : Go.Proofs.Enters Try.prog 26 := Go.Proofs.enters_of Try.func26 (by kernel_rfl) rfl
theorem en_27 : Go.Proofs.Enters Try.prog 27 := Go.Proofs.enters_of Try.func27 (by kernel_rfl) rfl
theorem en_28 : Go.Proofs.Enters Try.prog 28 := Go.Proofs.enters_of Try.func28 (by kernel_rfl) rfl
theorem en_29 : Go.Proofs.Enters Try.prog 29 := Go.Proofs.enters_of Try.func29 (by kernel_rfl) rfl
theorem en_30 : Go.Proofs.Enters Try.prog 30 := Go.Proofs.enters_of Try.func30 (by kernel_rfl) rfl
theorem en_31 : Go.Proofs.Enters Try.prog 31 := Go.Proofs.enters_of Try.func31 (by kernel_rfl) rfl
theorem fld_65_0 : fldOff Try.prog 65 0 = some 0 := by kernel_rfl
theorem fld_65_1 : fldOff Try.prog 65 1 = some 1 := by kernel_rfl
theorem fld_65_2 : fldOff Try.prog 65 2 = some 2 := by kernel_rfl
theorem fld_65_3 : fldOff Try.prog 65 3 = some 3 := by kernel_rfl
theorem fld_67_1 : fldOff Try.prog 67 1 = some 1 := by kernel_rfl
theorem fld_67_4 : fldOff Try.prog 67 4 = some 4 := by kernel_rfl
theorem ub_4 : Try.prog.underlying 4 = some .bool := by kernel_rfl


def takesP (d : Int) (c : Sec) : Bool := decide (c.2.1 ≤ d) && decide (d < c.2.2)
def holdsP (d : Int) (c : Sec) : Bool := decide (c.2.1 < d) && decide (d < c.2.2)
def resOf : Option Sec → Int
  | some c => c.1
  | none => -1
theorem find_t {l : List Sec} {p : Sec → Bool} {i : Nat} {s : Sec} (h : l[i]? = some s) (ht : (l.take i).find? p = none) (hp : p s = true) : l.find? p = some s := by
  have hi := (List.getElem?_eq_some_iff.1 h).1
  have e : l = l.take i ++ s :: l.drop (i + 1) := by
    rw [← show l[i] = s from by rw [List.getElem?_eq_getElem hi] at h; exact Option.some.inj h, ← List.drop_eq_getElem_cons hi, List.take_append_drop]
  rw [e, List.find?_append, ht, List.find?_cons, hp]; rfl
theorem find_n {l : List Sec} {p : Sec → Bool} {i : Nat} {s : Sec} (h : l[i]? = some s) (ht : (l.take i).find? p = none) (hp : p s = false) : (l.take (i + 1)).find? p = none := by
  rw [List.take_add_one, h, List.find?_append, ht]; simp [hp]
theorem find_e {l : List Sec} {p : Sec → Bool} {i : Nat} (hi : l.length ≤ i) (ht : (l.take i).find? p = none) : l.find? p = none := by
  rwa [List.take_of_length_le hi] at ht
abbrev jobV (id now dl cost done : Int) (a : Arr Sec) : Value := .agg #[.int .i64 id, .int .i64 now, .int .i64 dl, .int .i64 cost, .int .i64 done, .slice a.oad a.l.length a.c]

theorem jtakes (id now dl cost done : Int) (a : Arr Sec) (ha : Rd K a.ad (a.l.flatMap encS)) : Ctr Try.prog B 26 [jobV id now dl cost done a] [K] (fun v S => v = .int .i64 (resOf (a.l.find? (takesP done))) ∧ S = [K]) := by
  refine Ctr_of_X (N := 27) Try.func26 rfl (by simp) rfl ?_
  intro w0 D0
  refine X_seq ?_
  refine X_region ?_
  refine XL_box .no rfl rfl rfl (fun b1 => ?_)
  refine XL_det .no (D_pure rfl) rfl ?_
  refine XL_then ?_
  refine X_seq ?_
  refine X_seq ?_
  refine X_region ?_
  refine XL_det .no (D_fld rfl fld_67_5 (o' := 5) rfl) rfl ?_
  refine XL_det .no (D_ldo rfl (by repeat first | with_reducible exact .here _ _ | with_reducible apply Out.there) tk_59 (by rfl)) rfl ?_
  refine XL_det .no (D_len rfl rfl slc_59) rfl ?_
  refine XL_det .no (D_pure rfl) rfl ?_
  refine XL_then ?_
  refine X_block ?_
  refine X_loop (α := Nat) (fun i => i ≤ a.l.length ∧ (a.l.take i).find? (takesP done) = none) (fun i => [(8, .int .i64 (i : Int)), (1, .pointer (some ⟨b1, 0, none⟩)), (6, .slice a.oad a.l.length a.c), (7, .int .i64 (a.l.length : Int))]) (fun i => [blk b1 [.int .i64 id, .int .i64 now, .int .i64 dl, .int .i64 cost, .int .i64 done, .slice a.oad a.l.length a.c] 67, K]) (fun i => a.l.length - i) 0 ?_ (by refine ⟨?_, ?_, ?_, ?_, trivial⟩ <;> rfl) (by repeat first | with_reducible exact .nil _ | with_reducible exact .here _ _ | with_reducible exact Take.self _ | with_reducible apply Take.cons | with_reducible apply Out.there | with_reducible apply Take.skip) ?_
  · exact ⟨Nat.zero_le _, rfl⟩
  · rintro i ⟨hi, hq⟩
    have hsm := a.small
    refine X_seq ?_
    refine X_region ?_
    refine XL_det .no (D_pure rfl) rfl ?_
    refine XL_then ?_
    refine X_seq ?_
    refine X_cond rfl (fun h1 => ?_) (fun h1 => ?_)
    · try simp only [decide_eq_true_eq, decide_eq_false_iff_not, Bool.not_eq_true', Bool.not_eq_false', beq_iff_eq, bne_iff_ne, beq_eq_false_iff_ne, bne_eq_false_iff_eq, Int.not_lt, Int.not_le, gt_iff_lt, ge_iff_le, ne_eq] at h1
      obtain ⟨x, hx⟩ : ∃ x, a.l[i]? = some x := ⟨_, List.getElem?_eq_getElem (by omega)⟩
      refine X_skip ?_
      refine thenX_normal ?_
      refine X_seq ?_
      refine X_block ?_
      refine X_seq ?_
      refine X_region ?_
      refine XL_det .no (D_idxSo rfl rfl slc_59 (a).nil0 rfl (by omega) rfl) rfl ?_
      refine XL_det .no (D_els (enc := encS) (sz := 3) (i := i) (fun _ => rfl) rfl (by repeat first | with_reducible exact .here _ _ | with_reducible apply Out.there) ha tk_78 hx) rfl ?_
      refine XL_alloc .no zero_78 rfl (fun b2 => ?_)
      refine XL_efd .no (F_stw rfl rfl rfl (by repeat first | with_reducible exact .here _ _ | with_reducible apply Out.there) tk_78 rfl rfl) ?_
      refine XL_then ?_
      refine X_seq ?_
      refine X_region ?_
      refine XL_det .no (D_fld rfl fld_78_1 (o' := 1) rfl) rfl ?_
      refine XL_det .no (D_ldo rfl (by repeat first | with_reducible exact .here _ _ | with_reducible apply Out.there) tk_3 (by rfl)) rfl ?_
      refine XL_det .no (D_fld rfl fld_67_4 (o' := 4) rfl) rfl ?_
      refine XL_det .no (D_ldo rfl (by repeat first | with_reducible exact .here _ _ | with_reducible apply Out.there) tk_3 (by rfl)) rfl ?_
      refine XL_det .no (D_pure rfl) rfl ?_
      refine XL_det .no (D_pure rfl) rfl ?_
      refine XL_split (t := 17) rfl (fun h2 => ?_) (fun h2 => ?_)
      · try simp only [decide_eq_true_eq, decide_eq_false_iff_not, Bool.not_eq_true', Bool.not_eq_false', beq_iff_eq, bne_iff_ne, beq_eq_false_iff_ne, bne_eq_false_iff_eq, Int.not_lt, Int.not_le, gt_iff_lt, ge_iff_le, ne_eq] at h2
        refine XL_det (.yes 17 rfl rfl rfl) (D_fld rfl fld_67_4 (o' := 4) rfl) rfl ?_
        refine XL_det (.yes 17 rfl rfl rfl) (D_ldo rfl (by repeat first | with_reducible exact .here _ _ | with_reducible apply Out.there) tk_3 (by rfl)) rfl ?_
        refine XL_det (.yes 17 rfl rfl rfl) (D_fld rfl fld_78_2 (o' := 2) rfl) rfl ?_
        refine XL_det (.yes 17 rfl rfl rfl) (D_ldo rfl (by repeat first | with_reducible exact .here _ _ | with_reducible apply Out.there) tk_3 (by rfl)) rfl ?_
        refine XL_det (.yes 17 rfl rfl rfl) (D_pure rfl) rfl ?_
        refine XL_det .no (D_pure rfl) rfl ?_
        refine XL_then ?_
        refine X_cond rfl (fun h3 => ?_) (fun h3 => ?_)
        · try simp only [decide_eq_true_eq, decide_eq_false_iff_not, Bool.not_eq_true', Bool.not_eq_false', beq_iff_eq, bne_iff_ne, beq_eq_false_iff_ne, bne_eq_false_iff_eq, Int.not_lt, Int.not_le, gt_iff_lt, ge_iff_le, ne_eq] at h3
          refine X_seq ?_
          refine X_region ?_
          refine XL_det .no (D_fld rfl fld_78_0 (o' := 0) rfl) rfl ?_
          refine XL_det .no (D_ldo rfl (by repeat first | with_reducible exact .here _ _ | with_reducible apply Out.there) tk_3 (by rfl)) rfl ?_
          refine XL_det .no (D_pure rfl) rfl ?_
          refine XL_then ?_
          refine X_ret ?_
          refine inBlk_ret ?_
          refine thenX_ret ?_
          refine loopQ_ret ?_
          refine inBlk_ret ?_
          refine thenX_ret ?_
          refine ret_ok (.nil _) (res_tmp rfl rfl) ?_
          exact ⟨_, ⟨by rw [find_t hx hq (by simp [takesP]; omega)]; rfl, rfl⟩, _, (by repeat first | with_reducible exact .nil _ | with_reducible exact .here _ _ | with_reducible exact Take.self _ | with_reducible apply Take.cons | with_reducible apply Out.there | with_reducible apply Take.skip)⟩
        · try simp only [decide_eq_true_eq, decide_eq_false_iff_not, Bool.not_eq_true', Bool.not_eq_false', beq_iff_eq, bne_iff_ne, beq_eq_false_iff_ne, bne_eq_false_iff_eq, Int.not_lt, Int.not_le, gt_iff_lt, ge_iff_le, ne_eq] at h3
          refine X_skip ?_
          refine inBlk_normal ?_
          refine thenX_normal ?_
          refine X_region ?_
          refine XL_det .no (D_add rfl rfl (by omega) (by omega)) rfl ?_
          refine XL_det .no (D_pure rfl) rfl ?_
          refine XL_nil ?_
          refine loopQ_next (i + 1) ?_ ?_ ?_ ?_
          · exact ⟨by omega, find_n hx hq (by simp [takesP, h2]; omega)⟩
          · omega
          · refine ⟨?_, ?_, ?_, ?_, trivial⟩ <;> rfl
          · exact ⟨_, (by repeat first | with_reducible exact .nil _ | with_reducible exact .here _ _ | with_reducible exact Take.self _ | with_reducible apply Take.cons | with_reducible apply Out.there | with_reducible apply Take.skip)⟩
      · try simp only [decide_eq_true_eq, decide_eq_false_iff_not, Bool.not_eq_true', Bool.not_eq_false', beq_iff_eq, bne_iff_ne, beq_eq_false_iff_ne, bne_eq_false_iff_eq, Int.not_lt, Int.not_le, gt_iff_lt, ge_iff_le, ne_eq] at h2
        refine XL_skip 17 rfl rfl rfl rfl rfl ?_
        refine XL_skip 17 rfl rfl rfl rfl rfl ?_
        refine XL_skip 17 rfl rfl rfl rfl rfl ?_
        refine XL_skip 17 rfl rfl rfl rfl rfl ?_
        refine XL_skip 17 rfl rfl rfl rfl rfl ?_
        refine XL_det .no (D_pure rfl) rfl ?_
        refine XL_then ?_
        refine X_cond_f rfl rfl ?_
        refine X_skip ?_
        refine inBlk_normal ?_
        refine thenX_normal ?_
        refine X_region ?_
        refine XL_det .no (D_add rfl rfl (by omega) (by omega)) rfl ?_
        refine XL_det .no (D_pure rfl) rfl ?_
        refine XL_nil ?_
        refine loopQ_next (i + 1) ?_ ?_ ?_ ?_
        · exact ⟨by omega, find_n hx hq (by simp [takesP]; omega)⟩
        · omega
        · refine ⟨?_, ?_, ?_, ?_, trivial⟩ <;> rfl
        · exact ⟨_, (by repeat first | with_reducible exact .nil _ | with_reducible exact .here _ _ | with_reducible exact Take.self _ | with_reducible apply Take.cons | with_reducible apply Out.there | with_reducible apply Take.skip)⟩
    · try simp only [decide_eq_true_eq, decide_eq_false_iff_not, Bool.not_eq_true', Bool.not_eq_false', beq_iff_eq, bne_iff_ne, beq_eq_false_iff_ne, bne_eq_false_iff_eq, Int.not_lt, Int.not_le, gt_iff_lt, ge_iff_le, ne_eq] at h1
      refine X_exit ?_
      refine thenX_exit ?_
      refine loopQ_exit ?_
      refine inBlk_here ?_
      refine thenX_normal ?_
      refine X_seq ?_
      refine X_region ?_
      refine XL_det .no (D_pure rfl) rfl ?_
      refine XL_then ?_
      refine X_ret ?_
      refine ret_ok (.nil _) (res_tmp rfl rfl) ?_
      exact ⟨_, ⟨by rw [find_e (by omega) hq]; rfl, rfl⟩, _, (by repeat first | with_reducible exact .nil _ | with_reducible exact .here _ _ | with_reducible exact Take.self _ | with_reducible apply Take.cons | with_reducible apply Out.there | with_reducible apply Take.skip)⟩

theorem jholds (id now dl cost done : Int) (a : Arr Sec) (ha : Rd K a.ad (a.l.flatMap encS)) : Ctr Try.prog B 28 [jobV id now dl cost done a] [K] (fun v S => v = .int .i64 (resOf (a.l.find? (holdsP done))) ∧ S = [K]) := by
  refine Ctr_of_X (N := 27) Try.func28 rfl (by simp) rfl ?_
  intro w0 D0
  refine X_seq ?_
  refine X_region ?_
  refine XL_box .no rfl rfl rfl (fun b1 => ?_)
  refine XL_det .no (D_pure rfl) rfl ?_
  refine XL_then ?_
  refine X_seq ?_
  refine X_seq ?_
  refine X_region ?_
  refine XL_det .no (D_fld rfl fld_67_5 (o' := 5) rfl) rfl ?_
  refine XL_det .no (D_ldo rfl (by repeat first | with_reducible exact .here _ _ | with_reducible apply Out.there) tk_59 (by rfl)) rfl ?_
  refine XL_det .no (D_len rfl rfl slc_59) rfl ?_
  refine XL_det .no (D_pure rfl) rfl ?_
  refine XL_then ?_
  refine X_block ?_
  refine X_loop (α := Nat) (fun i => i ≤ a.l.length ∧ (a.l.take i).find? (holdsP done) = none) (fun i => [(8, .int .i64 (i : Int)), (1, .pointer (some ⟨b1, 0, none⟩)), (6, .slice a.oad a.l.length a.c), (7, .int .i64 (a.l.length : Int))]) (fun i => [blk b1 [.int .i64 id, .int .i64 now, .int .i64 dl, .int .i64 cost, .int .i64 done, .slice a.oad a.l.length a.c] 67, K]) (fun i => a.l.length - i) 0 ?_ (by refine ⟨?_, ?_, ?_, ?_, trivial⟩ <;> rfl) (by repeat first | with_reducible exact .nil _ | with_reducible exact .here _ _ | with_reducible exact Take.self _ | with_reducible apply Take.cons | with_reducible apply Out.there | with_reducible apply Take.skip) ?_
  · exact ⟨Nat.zero_le _, rfl⟩
  · rintro i ⟨hi, hq⟩
    have hsm := a.small
    refine X_seq ?_
    refine X_region ?_
    refine XL_det .no (D_pure rfl) rfl ?_
    refine XL_then ?_
    refine X_seq ?_
    refine X_cond rfl (fun h1 => ?_) (fun h1 => ?_)
    · try simp only [decide_eq_true_eq, decide_eq_false_iff_not, Bool.not_eq_true', Bool.not_eq_false', beq_iff_eq, bne_iff_ne, beq_eq_false_iff_ne, bne_eq_false_iff_eq, Int.not_lt, Int.not_le, gt_iff_lt, ge_iff_le, ne_eq] at h1
      obtain ⟨x, hx⟩ : ∃ x, a.l[i]? = some x := ⟨_, List.getElem?_eq_getElem (by omega)⟩
      refine X_skip ?_
      refine thenX_normal ?_
      refine X_seq ?_
      refine X_block ?_
      refine X_seq ?_
      refine X_region ?_
      refine XL_det .no (D_idxSo rfl rfl slc_59 (a).nil0 rfl (by omega) rfl) rfl ?_
      refine XL_det .no (D_els (enc := encS) (sz := 3) (i := i) (fun _ => rfl) rfl (by repeat first | with_reducible exact .here _ _ | with_reducible apply Out.there) ha tk_78 hx) rfl ?_
      refine XL_alloc .no zero_78 rfl (fun b2 => ?_)
      refine XL_efd .no (F_stw rfl rfl rfl (by repeat first | with_reducible exact .here _ _ | with_reducible apply Out.there) tk_78 rfl rfl) ?_
      refine XL_then ?_
      refine X_seq ?_
      refine X_region ?_
      refine XL_det .no (D_fld rfl fld_78_1 (o' := 1) rfl) rfl ?_
      refine XL_det .no (D_ldo rfl (by repeat first | with_reducible exact .here _ _ | with_reducible apply Out.there) tk_3 (by rfl)) rfl ?_
      refine XL_det .no (D_fld rfl fld_67_4 (o' := 4) rfl) rfl ?_
      refine XL_det .no (D_ldo rfl (by repeat first | with_reducible exact .here _ _ | with_reducible apply Out.there) tk_3 (by rfl)) rfl ?_
      refine XL_det .no (D_pure rfl) rfl ?_
      refine XL_det .no (D_pure rfl) rfl ?_
      refine XL_split (t := 17) rfl (fun h2 => ?_) (fun h2 => ?_)
      · try simp only [decide_eq_true_eq, decide_eq_false_iff_not, Bool.not_eq_true', Bool.not_eq_false', beq_iff_eq, bne_iff_ne, beq_eq_false_iff_ne, bne_eq_false_iff_eq, Int.not_lt, Int.not_le, gt_iff_lt, ge_iff_le, ne_eq] at h2
        refine XL_det (.yes 17 rfl rfl rfl) (D_fld rfl fld_67_4 (o' := 4) rfl) rfl ?_
        refine XL_det (.yes 17 rfl rfl rfl) (D_ldo rfl (by repeat first | with_reducible exact .here _ _ | with_reducible apply Out.there) tk_3 (by rfl)) rfl ?_
        refine XL_det (.yes 17 rfl rfl rfl) (D_fld rfl fld_78_2 (o' := 2) rfl) rfl ?_
        refine XL_det (.yes 17 rfl rfl rfl) (D_ldo rfl (by repeat first | with_reducible exact .here _ _ | with_reducible apply Out.there) tk_3 (by rfl)) rfl ?_
        refine XL_det (.yes 17 rfl rfl rfl) (D_pure rfl) rfl ?_
        refine XL_det .no (D_pure rfl) rfl ?_
        refine XL_then ?_
        refine X_cond rfl (fun h3 => ?_) (fun h3 => ?_)
        · try simp only [decide_eq_true_eq, decide_eq_false_iff_not, Bool.not_eq_true', Bool.not_eq_false', beq_iff_eq, bne_iff_ne, beq_eq_false_iff_ne, bne_eq_false_iff_eq, Int.not_lt, Int.not_le, gt_iff_lt, ge_iff_le, ne_eq] at h3
          refine X_seq ?_
          refine X_region ?_
          refine XL_det .no (D_fld rfl fld_78_0 (o' := 0) rfl) rfl ?_
          refine XL_det .no (D_ldo rfl (by repeat first | with_reducible exact .here _ _ | with_reducible apply Out.there) tk_3 (by rfl)) rfl ?_
          refine XL_det .no (D_pure rfl) rfl ?_
          refine XL_then ?_
          refine X_ret ?_
          refine inBlk_ret ?_
          refine thenX_ret ?_
          refine loopQ_ret ?_
          refine inBlk_ret ?_
          refine thenX_ret ?_
          refine ret_ok (.nil _) (res_tmp rfl rfl) ?_
          exact ⟨_, ⟨by rw [find_t hx hq (by simp [holdsP]; omega)]; rfl, rfl⟩, _, (by repeat first | with_reducible exact .nil _ | with_reducible exact .here _ _ | with_reducible exact Take.self _ | with_reducible apply Take.cons | with_reducible apply Out.there | with_reducible apply Take.skip)⟩
        · try simp only [decide_eq_true_eq, decide_eq_false_iff_not, Bool.not_eq_true', Bool.not_eq_false', beq_iff_eq, bne_iff_ne, beq_eq_false_iff_ne, bne_eq_false_iff_eq, Int.not_lt, Int.not_le, gt_iff_lt, ge_iff_le, ne_eq] at h3
          refine X_skip ?_
          refine inBlk_normal ?_
          refine thenX_normal ?_
          refine X_region ?_
          refine XL_det .no (D_add rfl rfl (by omega) (by omega)) rfl ?_
          refine XL_det .no (D_pure rfl) rfl ?_
          refine XL_nil ?_
          refine loopQ_next (i + 1) ?_ ?_ ?_ ?_
          · exact ⟨by omega, find_n hx hq (by simp [holdsP, h2]; omega)⟩
          · omega
          · refine ⟨?_, ?_, ?_, ?_, trivial⟩ <;> rfl
          · exact ⟨_, (by repeat first | with_reducible exact .nil _ | with_reducible exact .here _ _ | with_reducible exact Take.self _ | with_reducible apply Take.cons | with_reducible apply Out.there | with_reducible apply Take.skip)⟩
      · try simp only [decide_eq_true_eq, decide_eq_false_iff_not, Bool.not_eq_true', Bool.not_eq_false', beq_iff_eq, bne_iff_ne, beq_eq_false_iff_ne, bne_eq_false_iff_eq, Int.not_lt, Int.not_le, gt_iff_lt, ge_iff_le, ne_eq] at h2
        refine XL_skip 17 rfl rfl rfl rfl rfl ?_
        refine XL_skip 17 rfl rfl rfl rfl rfl ?_
        refine XL_skip 17 rfl rfl rfl rfl rfl ?_
        refine XL_skip 17 rfl rfl rfl rfl rfl ?_
        refine XL_skip 17 rfl rfl rfl rfl rfl ?_
        refine XL_det .no (D_pure rfl) rfl ?_
        refine XL_then ?_
        refine X_cond_f rfl rfl ?_
        refine X_skip ?_
        refine inBlk_normal ?_
        refine thenX_normal ?_
        refine X_region ?_
        refine XL_det .no (D_add rfl rfl (by omega) (by omega)) rfl ?_
        refine XL_det .no (D_pure rfl) rfl ?_
        refine XL_nil ?_
        refine loopQ_next (i + 1) ?_ ?_ ?_ ?_
        · exact ⟨by omega, find_n hx hq (by simp [holdsP]; omega)⟩
        · omega
        · refine ⟨?_, ?_, ?_, ?_, trivial⟩ <;> rfl
        · exact ⟨_, (by repeat first | with_reducible exact .nil _ | with_reducible exact .here _ _ | with_reducible exact Take.self _ | with_reducible apply Take.cons | with_reducible apply Out.there | with_reducible apply Take.skip)⟩
    · try simp only [decide_eq_true_eq, decide_eq_false_iff_not, Bool.not_eq_true', Bool.not_eq_false', beq_iff_eq, bne_iff_ne, beq_eq_false_iff_ne, bne_eq_false_iff_eq, Int.not_lt, Int.not_le, gt_iff_lt, ge_iff_le, ne_eq] at h1
      refine X_exit ?_
      refine thenX_exit ?_
      refine loopQ_exit ?_
      refine inBlk_here ?_
      refine thenX_normal ?_
      refine X_seq ?_
      refine X_region ?_
      refine XL_det .no (D_pure rfl) rfl ?_
      refine XL_then ?_
      refine X_ret ?_
      refine ret_ok (.nil _) (res_tmp rfl rfl) ?_
      exact ⟨_, ⟨by rw [find_e (by omega) hq]; rfl, rfl⟩, _, (by repeat first | with_reducible exact .nil _ | with_reducible exact .here _ _ | with_reducible exact Take.self _ | with_reducible apply Take.cons | with_reducible apply Out.there | with_reducible apply Take.skip)⟩

theorem jover (id now dl cost done : Int) (a : Arr Sec) : Ctr Try.prog B 27 [jobV id now dl cost done a] [] (fun v S => v = .bool (decide (done ≥ cost)) ∧ S = []) := by
  refine Ctr_of_X (N := 8) Try.func27 rfl (by simp) rfl ?_
  intro w0 D0
  refine X_seq ?_
  refine X_region ?_
  refine XL_box .no rfl rfl rfl (fun b1 => ?_)
  refine XL_det .no (D_pure rfl) rfl ?_
  refine XL_then ?_
  refine X_seq ?_
  refine X_region ?_
  refine XL_det .no (D_fld rfl fld_67_4 (o' := 4) rfl) rfl ?_
  refine XL_det .no (D_ldo rfl (by repeat first | with_reducible exact .here _ _ | with_reducible apply Out.there) tk_3 (by rfl)) rfl ?_
  refine XL_det .no (D_fld rfl fld_67_3 (o' := 3) rfl) rfl ?_
  refine XL_det .no (D_ldo rfl (by repeat first | with_reducible exact .here _ _ | with_reducible apply Out.there) tk_3 (by rfl)) rfl ?_
  refine XL_det .no (D_pure rfl) rfl ?_
  refine XL_det .no (D_pure rfl) rfl ?_
  refine XL_then ?_
  refine X_ret ?_
  refine ret_ok (.nil _) (res_tmp rfl rfl) ?_
  exact ⟨_, ⟨rfl, rfl⟩, _, (by repeat first | with_reducible exact .nil _ | with_reducible exact .here _ _ | with_reducible exact Take.self _ | with_reducible apply Take.cons | with_reducible apply Out.there | with_reducible apply Take.skip)⟩

theorem jlate (id now dl cost done : Int) (a : Arr Sec) (t : Int) : Ctr Try.prog B 31 [jobV id now dl cost done a, .int .i64 t] [] (fun v S => v = .bool (decide (t > dl)) ∧ S = []) := by
  refine Ctr_of_X (N := 9) Try.func31 rfl (by simp) rfl ?_
  intro w0 D0
  refine X_seq ?_
  refine X_region ?_
  refine XL_box .no rfl rfl rfl (fun b1 => ?_)
  refine XL_det .no (D_pure rfl) rfl ?_
  refine XL_then ?_
  refine X_seq ?_
  refine X_region ?_
  refine XL_det .no (D_pure rfl) rfl ?_
  refine XL_det .no (D_fld rfl fld_67_2 (o' := 2) rfl) rfl ?_
  refine XL_det .no (D_ldo rfl (by repeat first | with_reducible exact .here _ _ | with_reducible apply Out.there) tk_3 (by rfl)) rfl ?_
  refine XL_det .no (D_pure rfl) rfl ?_
  refine XL_det .no (D_pure rfl) rfl ?_
  refine XL_then ?_
  refine X_ret ?_
  refine ret_ok (.nil _) (res_tmp rfl rfl) ?_
  exact ⟨_, ⟨rfl, rfl⟩, _, (by repeat first | with_reducible exact .nil _ | with_reducible exact .here _ _ | with_reducible exact Take.self _ | with_reducible apply Take.cons | with_reducible apply Out.there | with_reducible apply Take.skip)⟩

theorem jwork (b : Nat) (id now dl cost done : Int) (a : Arr Sec) (h0 : 0 ≤ done) (h1 : done ≤ 4611686018427387904) : Ctr Try.prog B 30 [.pointer (some ⟨b, 0, none⟩)] [blk b [.int .i64 id, .int .i64 now, .int .i64 dl, .int .i64 cost, .int .i64 done, .slice a.oad a.l.length a.c] 67] (fun v S => v = .bool (decide (min (done + 1) cost ≥ cost)) ∧ S = [blk b [.int .i64 id, .int .i64 now, .int .i64 dl, .int .i64 cost, .int .i64 (min (done + 1) cost), .slice a.oad a.l.length a.c] 67]) := by
  refine Ctr_of_X (N := 20) Try.func30 rfl (by simp) rfl ?_
  intro w0 D0
  refine X_seq ?_
  refine X_region ?_
  refine XL_det .no (D_pure rfl) rfl ?_
  refine XL_then ?_
  refine X_seq ?_
  refine X_draw _ mixed (Take.self _) ?_
  refine XA_det 0 rfl (by kernel_rfl) (by kernel_rfl) (by kernel_rfl) (by kernel_rfl) (fun _ _ _ _ h => h) .no (D_pure rfl) rfl ?_
  refine XA_det 1 rfl (by kernel_rfl) (by kernel_rfl) (by kernel_rfl) (by kernel_rfl) (fun _ _ _ _ h => h) .no (D_pure rfl) rfl ?_
  refine XA_det 2 rfl (by kernel_rfl) (by kernel_rfl) (by kernel_rfl) (by kernel_rfl) (fun _ _ _ _ h => h) .no (D_nilck rfl) rfl ?_
  refine XA_det 3 rfl (by kernel_rfl) (by kernel_rfl) (by kernel_rfl) (by kernel_rfl) (fun _ _ _ _ h => h) .no (D_fld rfl fld_67_4 (o' := 4) rfl) rfl ?_
  refine XA_det 4 rfl (by kernel_rfl) (by kernel_rfl) (by kernel_rfl) (by kernel_rfl) (fun _ _ _ _ h => h) .no (D_ldo rfl (by repeat first | with_reducible exact .here _ _ | with_reducible apply Out.there) tk_3 (by rfl)) rfl ?_
  refine XA_det 5 rfl (by kernel_rfl) (by kernel_rfl) (by kernel_rfl) (by kernel_rfl) (fun _ _ _ _ h => h) .no (D_add rfl rfl (by omega) (by omega)) rfl ?_
  refine XA_det 6 rfl (by kernel_rfl) (by kernel_rfl) (by kernel_rfl) (by kernel_rfl) (fun _ _ _ _ h => h) .no (D_pure rfl) rfl ?_
  refine XA_det 7 rfl (by kernel_rfl) (by kernel_rfl) (by kernel_rfl) (by kernel_rfl) (fun _ _ _ _ h => h) .no (D_nilck rfl) rfl ?_
  refine XA_det 8 rfl (by kernel_rfl) (by kernel_rfl) (by kernel_rfl) (by kernel_rfl) (fun _ _ _ _ h => h) .no (D_fld rfl fld_67_3 (o' := 3) rfl) rfl ?_
  refine XA_det 9 rfl (by kernel_rfl) (by kernel_rfl) (by kernel_rfl) (by kernel_rfl) (fun _ _ _ _ h => h) .no (D_ldo rfl (by repeat first | with_reducible exact .here _ _ | with_reducible apply Out.there) tk_3 (by rfl)) rfl ?_
  refine XA_det 10 rfl (by kernel_rfl) (by kernel_rfl) (by kernel_rfl) (by kernel_rfl) (fun _ _ _ _ h => h) .no (D_min rfl rfl) rfl ?_
  refine XA_det 11 rfl (by kernel_rfl) (by kernel_rfl) (by kernel_rfl) (by kernel_rfl) (fun _ _ _ _ h => h) .no (D_nilck rfl) rfl ?_
  refine XA_det 12 rfl (by kernel_rfl) (by kernel_rfl) (by kernel_rfl) (by kernel_rfl) (fun _ _ _ _ h => h) .no (D_fld rfl fld_67_4 (o' := 4) rfl) rfl ?_
  refine XA_one 13 (by kernel_rfl) ?_
  refine XO_efd rfl .no (by repeat first | with_reducible exact .nil _ | with_reducible apply App.cons) (F_stl rfl rfl rfl (by repeat first | with_reducible exact .here _ _ | with_reducible apply Out.there) tk_3 (by repeat first | exact .zero _ _ _ | apply SetL.succ)) (by kernel_rfl) ?_
  refine XA_done (by kernel_rfl) ?_
  try simp only [List.cons_append, List.nil_append, List.append_nil]
  refine thenX_normal ?_
  refine X_seq ?_
  refine X_region ?_
  refine XL_det .no (D_pure rfl) rfl ?_
  refine XL_det .no (D_nilck rfl) rfl ?_
  refine XL_det .no (D_ldso rfl (by repeat first | with_reducible exact .here _ _ | with_reducible apply Out.there) tk_67 rfl (by rfl)) rfl ?_
  refine XL_callv .no en_27 rfl (jover id now dl cost (min (done + 1) cost) a) rfl ?_
  refine XL_det .no (D_pure rfl) rfl ?_
  refine XL_then ?_
  refine X_ret ?_
  refine ret_ok (.nil _) (res_tmp rfl rfl) ?_
  exact ⟨_, ⟨rfl, rfl⟩, _, (by repeat first | with_reducible exact .nil _ | with_reducible exact .here _ _ | with_reducible exact Take.self _ | with_reducible apply Take.cons | with_reducible apply Out.there | with_reducible apply Take.skip)⟩

theorem rholds (a : Arr Sec) (ha : Rd K a.ad (a.l.flatMap encS)) (d : Int) (k : Bool) : Ctr Try.prog B 29 [.slice a.oad a.l.length a.c, .int .i64 d, .bool k] [K] (fun v S => v = .int .i64 (resOf (a.l.find? (if k then takesP d else holdsP d))) ∧ S = [K]) := by
  refine Ctr_of_X (N := 47) Try.func29 rfl (by simp) rfl ?_
  intro w0 D0
  refine X_seq ?_
  refine X_region ?_
  refine XL_det .no (D_pure rfl) rfl ?_
  refine XL_then ?_
  refine X_seq ?_
  refine X_seq ?_
  refine X_region ?_
  refine XL_det .no (D_pure rfl) rfl ?_
  refine XL_then ?_
  refine X_block ?_
  refine X_loop (α := Nat) (fun i => i ≤ a.l.length ∧ (a.l.take i).find? (if k then takesP d else holdsP d) = none) (fun i => [(7, .int .i64 (i : Int)), (0, .slice a.oad a.l.length a.c), (1, .int .i64 d), (2, .bool k)]) (fun i => [K]) (fun i => a.l.length - i) 0 ?_ (by refine ⟨?_, ?_, ?_, ?_, trivial⟩ <;> rfl) (by repeat first | with_reducible exact .nil _ | with_reducible exact .here _ _ | with_reducible exact Take.self _ | with_reducible apply Take.cons | with_reducible apply Out.there | with_reducible apply Take.skip) ?_
  · exact ⟨Nat.zero_le _, rfl⟩
  · rintro i ⟨hi, hq⟩
    have hsm := a.small
    refine X_seq ?_
    refine X_seq ?_
    refine X_region ?_
    refine XL_det .no (D_pure rfl) rfl ?_
    refine XL_det .no (D_pure rfl) rfl ?_
    refine XL_det .no (D_len rfl rfl slc_59) rfl ?_
    refine XL_det .no (D_pure rfl) rfl ?_
    refine XL_then ?_
    refine X_cond rfl (fun h1 => ?_) (fun h1 => ?_)
    · try simp only [decide_eq_true_eq, decide_eq_false_iff_not, Bool.not_eq_true', Bool.not_eq_false', beq_iff_eq, bne_iff_ne, beq_eq_false_iff_ne, bne_eq_false_iff_eq, Int.not_lt, Int.not_le, gt_iff_lt, ge_iff_le, ne_eq] at h1
      obtain ⟨x, hx⟩ : ∃ x, a.l[i]? = some x := ⟨_, List.getElem?_eq_getElem (by omega)⟩
      refine X_skip ?_
      refine thenX_normal ?_
      refine X_seq ?_
      refine X_block ?_
      refine X_seq ?_
      refine X_region ?_
      refine XL_det .no (D_pure rfl) rfl ?_
      refine XL_det .no (D_pure rfl) rfl ?_
      refine XL_det .no (D_pure rfl) rfl ?_
      refine XL_det .no (D_idxSo rfl rfl slc_59 (a).nil0 rfl (by omega) rfl) rfl ?_
      refine XL_det .no (D_fldA rfl fld_78_1 rfl) rfl ?_
      refine XL_det .no (D_ela (enc := encS) (sz := 3) (i := i) (k := 1) (fun _ => rfl) rfl (by repeat first | with_reducible exact .here _ _ | with_reducible apply Out.there) ha tk_3 hx rfl) rfl ?_
      refine XL_det .no (D_pure rfl) rfl ?_
      refine XL_det .no (D_pure rfl) rfl ?_
      refine XL_split (t := 21) rfl (fun h2 => ?_) (fun h2 => ?_)
      · try simp only [decide_eq_true_eq, decide_eq_false_iff_not, Bool.not_eq_true', Bool.not_eq_false', beq_iff_eq, bne_iff_ne, beq_eq_false_iff_ne, bne_eq_false_iff_eq, Int.not_lt, Int.not_le, gt_iff_lt, ge_iff_le, ne_eq] at h2
        refine XL_skip 21 rfl rfl rfl rfl rfl ?_
        refine XL_skip 21 rfl rfl rfl rfl rfl ?_
        refine XL_skipu 23 rfl rfl rfl rfl ?_
        refine XL_skipu 23 rfl rfl rfl rfl ?_
        refine XL_skipu 23 rfl rfl rfl rfl ?_
        refine XL_skipu 23 rfl rfl rfl rfl ?_
        refine XL_skipu 23 rfl rfl rfl rfl ?_
        refine XL_skipu 23 rfl rfl rfl rfl ?_
        refine XL_skipu 23 rfl rfl rfl rfl ?_
        refine XL_skip 21 rfl rfl rfl rfl rfl ?_
        refine XL_det .no (D_pure rfl) rfl ?_
        refine XL_det .no (D_pure rfl) rfl ?_
        refine XL_det (.yes 33 rfl rfl rfl) (D_pure rfl) rfl ?_
        refine XL_det (.yes 33 rfl rfl rfl) (D_pure rfl) rfl ?_
        refine XL_det (.yes 33 rfl rfl rfl) (D_pure rfl) rfl ?_
        refine XL_det (.yes 33 rfl rfl rfl) (D_idxSo rfl rfl slc_59 (a).nil0 rfl (by omega) rfl) rfl ?_
        refine XL_det (.yes 33 rfl rfl rfl) (D_fldA rfl fld_78_2 rfl) rfl ?_
        refine XL_det (.yes 33 rfl rfl rfl) (D_ela (enc := encS) (sz := 3) (i := i) (k := 2) (fun _ => rfl) rfl (by repeat first | with_reducible exact .here _ _ | with_reducible apply Out.there) ha tk_3 hx rfl) rfl ?_
        refine XL_det (.yes 33 rfl rfl rfl) (D_pure rfl) rfl ?_
        refine XL_det .no (D_pure rfl) rfl ?_
        refine XL_then ?_
        refine X_cond rfl (fun h3 => ?_) (fun h3 => ?_)
        · try simp only [decide_eq_true_eq, decide_eq_false_iff_not, Bool.not_eq_true', Bool.not_eq_false', beq_iff_eq, bne_iff_ne, beq_eq_false_iff_ne, bne_eq_false_iff_eq, Int.not_lt, Int.not_le, gt_iff_lt, ge_iff_le, ne_eq] at h3
          refine X_seq ?_
          refine X_region ?_
          refine XL_det .no (D_pure rfl) rfl ?_
          refine XL_det .no (D_pure rfl) rfl ?_
          refine XL_det .no (D_idxSo rfl rfl slc_59 (a).nil0 rfl (by omega) rfl) rfl ?_
          refine XL_det .no (D_fldA rfl fld_78_0 rfl) rfl ?_
          refine XL_det .no (D_ela (enc := encS) (sz := 3) (i := i) (k := 0) (fun _ => rfl) rfl (by repeat first | with_reducible exact .here _ _ | with_reducible apply Out.there) ha tk_3 hx rfl) rfl ?_
          refine XL_det .no (D_pure rfl) rfl ?_
          refine XL_then ?_
          refine X_ret ?_
          refine inBlk_ret ?_
          refine thenX_ret ?_
          refine loopQ_ret ?_
          refine inBlk_ret ?_
          refine thenX_ret ?_
          refine ret_ok (.nil _) (res_tmp rfl rfl) ?_
          exact ⟨_, ⟨by rw [find_t hx hq (by cases k <;> simp_all [takesP, holdsP] <;> omega)]; rfl, rfl⟩, _, (by repeat first | with_reducible exact .nil _ | with_reducible exact .here _ _ | with_reducible exact Take.self _ | with_reducible apply Take.cons | with_reducible apply Out.there | with_reducible apply Take.skip)⟩
        · try simp only [decide_eq_true_eq, decide_eq_false_iff_not, Bool.not_eq_true', Bool.not_eq_false', beq_iff_eq, bne_iff_ne, beq_eq_false_iff_ne, bne_eq_false_iff_eq, Int.not_lt, Int.not_le, gt_iff_lt, ge_iff_le, ne_eq] at h3
          refine X_skip ?_
          refine inBlk_normal ?_
          refine thenX_normal ?_
          refine X_region ?_
          refine XL_det .no (D_pure rfl) rfl ?_
          refine XL_det .no (D_add rfl rfl (by omega) (by omega)) rfl ?_
          refine XL_det .no (D_pure rfl) rfl ?_
          refine XL_nil ?_
          refine loopQ_next (i + 1) ?_ ?_ ?_ ?_
          · exact ⟨by omega, find_n hx hq (by cases k <;> simp_all [takesP, holdsP] <;> omega)⟩
          · omega
          · refine ⟨?_, ?_, ?_, ?_, trivial⟩ <;> rfl
          · exact ⟨_, (by repeat first | with_reducible exact .nil _ | with_reducible exact .here _ _ | with_reducible exact Take.self _ | with_reducible apply Take.cons | with_reducible apply Out.there | with_reducible apply Take.skip)⟩
      · try simp only [decide_eq_true_eq, decide_eq_false_iff_not, Bool.not_eq_true', Bool.not_eq_false', beq_iff_eq, bne_iff_ne, beq_eq_false_iff_ne, bne_eq_false_iff_eq, Int.not_lt, Int.not_le, gt_iff_lt, ge_iff_le, ne_eq] at h2
        refine XL_det (.yes 21 rfl rfl rfl) (D_pure rfl) rfl ?_
        refine XL_det (.yes 21 rfl rfl rfl) (D_pure rfl) rfl ?_
        refine XL_split (t := 23) rfl (fun h4 => ?_) (fun h4 => ?_)
        · try simp only [decide_eq_true_eq, decide_eq_false_iff_not, Bool.not_eq_true', Bool.not_eq_false', beq_iff_eq, bne_iff_ne, beq_eq_false_iff_ne, bne_eq_false_iff_eq, Int.not_lt, Int.not_le, gt_iff_lt, ge_iff_le, ne_eq] at h4
          refine XL_det (.yes 23 rfl rfl rfl) (D_pure rfl) rfl ?_
          refine XL_det (.yes 23 rfl rfl rfl) (D_pure rfl) rfl ?_
          refine XL_det (.yes 23 rfl rfl rfl) (D_pure rfl) rfl ?_
          refine XL_det (.yes 23 rfl rfl rfl) (D_idxSo rfl rfl slc_59 (a).nil0 rfl (by omega) rfl) rfl ?_
          refine XL_det (.yes 23 rfl rfl rfl) (D_fldA rfl fld_78_1 rfl) rfl ?_
          refine XL_det (.yes 23 rfl rfl rfl) (D_ela (enc := encS) (sz := 3) (i := i) (k := 1) (fun _ => rfl) rfl (by repeat first | with_reducible exact .here _ _ | with_reducible apply Out.there) ha tk_3 hx rfl) rfl ?_
          refine XL_det (.yes 23 rfl rfl rfl) (D_pure rfl) rfl ?_
          refine XL_det (.yes 21 rfl rfl rfl) (D_pure rfl) rfl ?_
          refine XL_det .no (D_pure rfl) rfl ?_
          refine XL_det .no (D_pure rfl) rfl ?_
          refine XL_split (t := 33) rfl (fun h5 => ?_) (fun h5 => ?_)
          · try simp only [decide_eq_true_eq, decide_eq_false_iff_not, Bool.not_eq_true', Bool.not_eq_false', beq_iff_eq, bne_iff_ne, beq_eq_false_iff_ne, bne_eq_false_iff_eq, Int.not_lt, Int.not_le, gt_iff_lt, ge_iff_le, ne_eq] at h5
            refine XL_det (.yes 33 rfl rfl rfl) (D_pure rfl) rfl ?_
            refine XL_det (.yes 33 rfl rfl rfl) (D_pure rfl) rfl ?_
            refine XL_det (.yes 33 rfl rfl rfl) (D_pure rfl) rfl ?_
            refine XL_det (.yes 33 rfl rfl rfl) (D_idxSo rfl rfl slc_59 (a).nil0 rfl (by omega) rfl) rfl ?_
            refine XL_det (.yes 33 rfl rfl rfl) (D_fldA rfl fld_78_2 rfl) rfl ?_
            refine XL_det (.yes 33 rfl rfl rfl) (D_ela (enc := encS) (sz := 3) (i := i) (k := 2) (fun _ => rfl) rfl (by repeat first | with_reducible exact .here _ _ | with_reducible apply Out.there) ha tk_3 hx rfl) rfl ?_
            refine XL_det (.yes 33 rfl rfl rfl) (D_pure rfl) rfl ?_
            refine XL_det .no (D_pure rfl) rfl ?_
            refine XL_then ?_
            refine X_cond rfl (fun h6 => ?_) (fun h6 => ?_)
            · try simp only [decide_eq_true_eq, decide_eq_false_iff_not, Bool.not_eq_true', Bool.not_eq_false', beq_iff_eq, bne_iff_ne, beq_eq_false_iff_ne, bne_eq_false_iff_eq, Int.not_lt, Int.not_le, gt_iff_lt, ge_iff_le, ne_eq] at h6
              refine X_seq ?_
              refine X_region ?_
              refine XL_det .no (D_pure rfl) rfl ?_
              refine XL_det .no (D_pure rfl) rfl ?_
              refine XL_det .no (D_idxSo rfl rfl slc_59 (a).nil0 rfl (by omega) rfl) rfl ?_
              refine XL_det .no (D_fldA rfl fld_78_0 rfl) rfl ?_
              refine XL_det .no (D_ela (enc := encS) (sz := 3) (i := i) (k := 0) (fun _ => rfl) rfl (by repeat first | with_reducible exact .here _ _ | with_reducible apply Out.there) ha tk_3 hx rfl) rfl ?_
              refine XL_det .no (D_pure rfl) rfl ?_
              refine XL_then ?_
              refine X_ret ?_
              refine inBlk_ret ?_
              refine thenX_ret ?_
              refine loopQ_ret ?_
              refine inBlk_ret ?_
              refine thenX_ret ?_
              refine ret_ok (.nil _) (res_tmp rfl rfl) ?_
              exact ⟨_, ⟨by rw [find_t hx hq (by cases k <;> simp_all [takesP, holdsP] <;> omega)]; rfl, rfl⟩, _, (by repeat first | with_reducible exact .nil _ | with_reducible exact .here _ _ | with_reducible exact Take.self _ | with_reducible apply Take.cons | with_reducible apply Out.there | with_reducible apply Take.skip)⟩
            · try simp only [decide_eq_true_eq, decide_eq_false_iff_not, Bool.not_eq_true', Bool.not_eq_false', beq_iff_eq, bne_iff_ne, beq_eq_false_iff_ne, bne_eq_false_iff_eq, Int.not_lt, Int.not_le, gt_iff_lt, ge_iff_le, ne_eq] at h6
              refine X_skip ?_
              refine inBlk_normal ?_
              refine thenX_normal ?_
              refine X_region ?_
              refine XL_det .no (D_pure rfl) rfl ?_
              refine XL_det .no (D_add rfl rfl (by omega) (by omega)) rfl ?_
              refine XL_det .no (D_pure rfl) rfl ?_
              refine XL_nil ?_
              refine loopQ_next (i + 1) ?_ ?_ ?_ ?_
              · exact ⟨by omega, find_n hx hq (by cases k <;> simp_all [takesP, holdsP] <;> omega)⟩
              · omega
              · refine ⟨?_, ?_, ?_, ?_, trivial⟩ <;> rfl
              · exact ⟨_, (by repeat first | with_reducible exact .nil _ | with_reducible exact .here _ _ | with_reducible exact Take.self _ | with_reducible apply Take.cons | with_reducible apply Out.there | with_reducible apply Take.skip)⟩
          · try simp only [decide_eq_true_eq, decide_eq_false_iff_not, Bool.not_eq_true', Bool.not_eq_false', beq_iff_eq, bne_iff_ne, beq_eq_false_iff_ne, bne_eq_false_iff_eq, Int.not_lt, Int.not_le, gt_iff_lt, ge_iff_le, ne_eq] at h5
            refine XL_skip 33 rfl rfl rfl rfl rfl ?_
            refine XL_skip 33 rfl rfl rfl rfl rfl ?_
            refine XL_skip 33 rfl rfl rfl rfl rfl ?_
            refine XL_skip 33 rfl rfl rfl rfl rfl ?_
            refine XL_skip 33 rfl rfl rfl rfl rfl ?_
            refine XL_skip 33 rfl rfl rfl rfl rfl ?_
            refine XL_skip 33 rfl rfl rfl rfl rfl ?_
            refine XL_det .no (D_pure rfl) rfl ?_
            refine XL_then ?_
            refine X_cond_f rfl rfl ?_
            refine X_skip ?_
            refine inBlk_normal ?_
            refine thenX_normal ?_
            refine X_region ?_
            refine XL_det .no (D_pure rfl) rfl ?_
            refine XL_det .no (D_add rfl rfl (by omega) (by omega)) rfl ?_
            refine XL_det .no (D_pure rfl) rfl ?_
            refine XL_nil ?_
            refine loopQ_next (i + 1) ?_ ?_ ?_ ?_
            · exact ⟨by omega, find_n hx hq (by cases k <;> simp_all [takesP, holdsP] <;> omega)⟩
            · omega
            · refine ⟨?_, ?_, ?_, ?_, trivial⟩ <;> rfl
            · exact ⟨_, (by repeat first | with_reducible exact .nil _ | with_reducible exact .here _ _ | with_reducible exact Take.self _ | with_reducible apply Take.cons | with_reducible apply Out.there | with_reducible apply Take.skip)⟩
        · try simp only [decide_eq_true_eq, decide_eq_false_iff_not, Bool.not_eq_true', Bool.not_eq_false', beq_iff_eq, bne_iff_ne, beq_eq_false_iff_ne, bne_eq_false_iff_eq, Int.not_lt, Int.not_le, gt_iff_lt, ge_iff_le, ne_eq] at h4
          refine XL_skip 23 rfl rfl rfl rfl rfl ?_
          refine XL_skip 23 rfl rfl rfl rfl rfl ?_
          refine XL_skip 23 rfl rfl rfl rfl rfl ?_
          refine XL_skip 23 rfl rfl rfl rfl rfl ?_
          refine XL_skip 23 rfl rfl rfl rfl rfl ?_
          refine XL_skip 23 rfl rfl rfl rfl rfl ?_
          refine XL_skip 23 rfl rfl rfl rfl rfl ?_
          refine XL_det (.yes 21 rfl rfl rfl) (D_pure rfl) rfl ?_
          refine XL_det .no (D_pure rfl) rfl ?_
          refine XL_det .no (D_pure rfl) rfl ?_
          refine XL_skip 33 rfl rfl rfl rfl rfl ?_
          refine XL_skip 33 rfl rfl rfl rfl rfl ?_
          refine XL_skip 33 rfl rfl rfl rfl rfl ?_
          refine XL_skip 33 rfl rfl rfl rfl rfl ?_
          refine XL_skip 33 rfl rfl rfl rfl rfl ?_
          refine XL_skip 33 rfl rfl rfl rfl rfl ?_
          refine XL_skip 33 rfl rfl rfl rfl rfl ?_
          refine XL_det .no (D_pure rfl) rfl ?_
          refine XL_then ?_
          refine X_cond_f rfl rfl ?_
          refine X_skip ?_
          refine inBlk_normal ?_
          refine thenX_normal ?_
          refine X_region ?_
          refine XL_det .no (D_pure rfl) rfl ?_
          refine XL_det .no (D_add rfl rfl (by omega) (by omega)) rfl ?_
          refine XL_det .no (D_pure rfl) rfl ?_
          refine XL_nil ?_
          refine loopQ_next (i + 1) ?_ ?_ ?_ ?_
          · exact ⟨by omega, find_n hx hq (by cases k <;> simp_all [takesP, holdsP] <;> omega)⟩
          · omega
          · refine ⟨?_, ?_, ?_, ?_, trivial⟩ <;> rfl
          · exact ⟨_, (by repeat first | with_reducible exact .nil _ | with_reducible exact .here _ _ | with_reducible exact Take.self _ | with_reducible apply Take.cons | with_reducible apply Out.there | with_reducible apply Take.skip)⟩
    · try simp only [decide_eq_true_eq, decide_eq_false_iff_not, Bool.not_eq_true', Bool.not_eq_false', beq_iff_eq, bne_iff_ne, beq_eq_false_iff_ne, bne_eq_false_iff_eq, Int.not_lt, Int.not_le, gt_iff_lt, ge_iff_le, ne_eq] at h1
      refine X_exit ?_
      refine thenX_exit ?_
      refine loopQ_exit ?_
      refine inBlk_here ?_
      refine thenX_normal ?_
      refine X_seq ?_
      refine X_region ?_
      refine XL_det .no (D_pure rfl) rfl ?_
      refine XL_then ?_
      refine X_ret ?_
      refine ret_ok (.nil _) (res_tmp rfl rfl) ?_
      exact ⟨_, ⟨by rw [find_e (by omega) hq]; rfl, rfl⟩, _, (by repeat first | with_reducible exact .nil _ | with_reducible exact .here _ _ | with_reducible exact Take.self _ | with_reducible apply Take.cons | with_reducible apply Out.there | with_reducible apply Take.skip)⟩


/-- Sections one behind another, each within its task's longest. -/
def okL (T : Nat → Int) (cost : Int) : Int → List Sec → Prop
  | _, [] => True
  | lo, c :: l => lo ≤ c.2.1 ∧ c.2.1 < c.2.2 ∧ c.2.2 ≤ cost ∧ (∃ j : Nat, c.1 = (j : Int) ∧ j < 8 ∧ c.2.2 - c.2.1 ≤ T (3 + j)) ∧ okL T cost c.2.2 l
theorem cut_ok {T : Nat → Int} {cost from_ : Int} {s c : Sec} (hT : ∀ j, j < 8 → 0 ≤ T (3 + j)) (h : cutS T cost from_ s = some c) : from_ ≤ c.2.1 ∧ c.2.1 < c.2.2 ∧ c.2.2 ≤ cost ∧ (∃ j : Nat, c.1 = (j : Int) ∧ j < 8 ∧ c.2.2 - c.2.1 ≤ T (3 + j)) := by
  unfold cutS at h
  split at h
  · cases h
  · rename_i hn
    obtain ⟨j, hj⟩ := Int.eq_ofNat_of_zero_le (a := s.1) (by omega)
    have h8 : j < 8 := by omega
    have := hT j h8
    rw [hj, Int.toNat_natCast] at h hn
    simp only [Option.some.injEq] at h
    rcases Int.lt_or_le (T (3 + j)) (min s.2.2 cost - s.2.1) with hg | hg
    · rw [if_pos hg] at h; subst h
      refine ⟨?_, ?_, ?_, j, rfl, h8, ?_⟩ <;> dsimp only <;> omega
    · rw [if_neg (by omega)] at h; subst h
      refine ⟨?_, ?_, ?_, j, rfl, h8, ?_⟩ <;> dsimp only <;> omega
theorem secs_ok {T : Nat → Int} {cost : Int} (hT : ∀ j, j < 8 → 0 ≤ T (3 + j)) : ∀ (l : List Sec) (from_ : Int) (many : Nat), okL T cost from_ (secs T cost from_ many l)
  | [], _, _ => trivial
  | s :: l, from_, many => by
    rw [secs]
    split
    · trivial
    · cases hc : cutS T cost from_ s with
      | none => exact secs_ok hT l from_ many
      | some c =>
        obtain ⟨h1, h2, h3, h4⟩ := cut_ok hT hc
        exact ⟨h1, h2, h3, h4, secs_ok hT l _ _⟩
theorem okL_lo {T : Nat → Int} {cost : Int} : ∀ {l : List Sec} {lo : Int}, okL T cost lo l → ∀ c ∈ l, lo ≤ c.2.1 ∧ c.2.1 < c.2.2 ∧ c.2.2 ≤ cost ∧ (∃ j : Nat, c.1 = (j : Int) ∧ j < 8 ∧ c.2.2 - c.2.1 ≤ T (3 + j))
  | [], _, _, _, h => by cases h
  | d :: l, lo, ⟨h1, h2, h3, h4, h5⟩, c, hc => by
    rcases List.mem_cons.1 hc with rfl | hc
    · exact ⟨h1, h2, h3, h4⟩
    · obtain ⟨g1, g2⟩ := okL_lo h5 c hc; exact ⟨by omega, g2⟩
/-- Who holds something at d takes it there. -/
theorem takes_of {T : Nat → Int} {cost : Int} : ∀ {l : List Sec} {lo : Int} {c : Sec} {d : Int}, okL T cost lo l → c ∈ l → c.2.1 ≤ d → d < c.2.2 → l.find? (takesP d) = some c
  | [], _, _, _, _, h, _, _ => by cases h
  | e :: l, lo, c, d, ⟨h1, h2, h3, h4, h5⟩, hc, g1, g2 => by
    rcases List.mem_cons.1 hc with rfl | hc
    · rw [List.find?_cons]; simp [takesP, g1, g2]
    · have := (okL_lo h5 c hc).1
      rw [List.find?_cons, show takesP d e = false from by simp [takesP]; omega]
      exact takes_of h5 hc g1 g2
theorem holds_some {l : List Sec} {d : Int} (h : 0 ≤ resOf (l.find? (holdsP d))) : ∃ c, l.find? (holdsP d) = some c ∧ c ∈ l ∧ c.2.1 < d ∧ d < c.2.2 := by
  cases hf : l.find? (holdsP d) with
  | none => rw [hf] at h; simp [resOf] at h
  | some c =>
    have := List.find?_some hf
    simp [holdsP] at this
    exact ⟨c, rfl, List.mem_of_find?_eq_some hf, this.1, this.2⟩
/-- How long the resource that was taken last has been held, at the beginning of tick i. -/
def heldOk (l : List Sec) (i : Int) (held last : Int) : Prop := last < 0 ∨ ∃ c ∈ l, c.1 = last ∧ c.2.1 < i ∧ i < c.2.2 ∧ held ≤ i - c.2.1
theorem held_step {T : Nat → Int} {cost lo : Int} {l : List Sec} {i held last held' : Int} (ho : okL T cost lo l) (hi : heldOk l i held last) (hh : held' = (if resOf (l.find? (takesP i)) ≠ last then 0 else held) + 1) (hp : 0 ≤ resOf (l.find? (holdsP (i + 1)))) :
    heldOk l (i + 1) held' (resOf (l.find? (takesP i))) ∧ ∃ j : Nat, resOf (l.find? (takesP i)) = (j : Int) ∧ j < 8 ∧ held' ≤ T (3 + j) := by
  obtain ⟨c, _, hc, h1, h2⟩ := holds_some hp
  have ht := takes_of ho hc (show c.2.1 ≤ i by omega) (by omega)
  obtain ⟨_, _, _, j, hj, h8, hT⟩ := okL_lo ho c hc
  rw [ht] at hh ⊢
  have hle : held' ≤ i + 1 - c.2.1 := by
    rw [hh]
    split
    · omega
    · rename_i he
      simp only [ne_eq, Decidable.not_not] at he
      rcases hi with h | ⟨d, hd, g1, g2, g3, g4⟩
      · rw [← he] at h; simp only [resOf] at h; omega
      · have := takes_of ho hd (show d.2.1 ≤ i by omega) g3
        rw [ht] at this
        simp at this; subst this; omega
  exact ⟨.inr ⟨c, hc, rfl, h1, h2, hle⟩, j, hj, h8, by omega⟩
theorem holds_end {T : Nat → Int} {cost lo : Int} {l : List Sec} {d : Int} (h : okL T cost lo l) (hd : cost ≤ d) : resOf (l.find? (holdsP d)) = -1 := by
  cases hf : l.find? (holdsP d) with
  | none => rfl
  | some c =>
    have h1 := List.find?_some hf
    simp [holdsP] at h1
    have := (okL_lo h c (List.mem_of_find?_eq_some hf)).2.2.1
    omega
theorem bt {m n : Int} (h : m = n) : some (Value.bool (m == n)) = some (.bool true) := by simp [h]
theorem bf {m n : Int} (h : m = n) : some (Value.bool (m != n)) = some (.bool false) := by simp [h]
theorem bl {m n : Int} (h : ¬ m > n) : some (Value.bool (decide (m > n))) = some (.bool false) := by simp; omega
theorem bg {m n : Int} (h : m ≥ n) : some (Value.bool (decide (m ≥ n))) = some (.bool true) := by simp; omega
theorem say {f : Nat} {args : List Value} {pre : List (Asrt B)} {p : Prop} [Decidable p] (b : Bool) (h : Ctr Try.prog B f args pre (fun v S => v = .bool (decide p) ∧ S = pre)) (hp : decide p = b) : Ctr Try.prog B f args pre (fun v S => v = .bool b ∧ S = pre) :=
  h.mono fun v S ⟨h1, h2⟩ => ⟨by rw [h1, hp], h2⟩

theorem jobWorks (T : Nat → Int) (id now co : Int) (l : Arr Sec) (hl : Rd K l.ad (l.l.flatMap encS)) : Ctr Try.prog B 7 [tV T, .agg #[.int .i64 id, .int .i64 now, .int .i64 co, .slice l.oad l.l.length l.c]] [K] (fun v S => v = .bool true ∧ S = [K]) := by
  refine Ctr_of_X (N := 197) Try.func7 rfl (by simp) rfl ?_
  intro w0 D0
  refine X_seq ?_
  refine X_region ?_
  refine XL_box .no rfl rfl rfl (fun b1 => ?_)
  refine XL_box .no rfl rfl rfl (fun b2 => ?_)
  refine XL_det .no (D_pure rfl) rfl ?_
  refine XL_then ?_
  refine X_seq ?_
  refine X_seq ?_
  refine X_region ?_
  refine XL_det .no (D_fld rfl fld_65_3 (o' := 3) rfl) rfl ?_
  refine XL_det .no (D_ldo rfl (by repeat first | with_reducible exact .here _ _ | with_reducible apply Out.there) tk_59 (by rfl)) rfl ?_
  refine XL_det .no (D_len rfl rfl slc_59) rfl ?_
  refine XL_det .no (D_pure rfl) rfl ?_
  refine XL_det .no (D_pure rfl) rfl ?_
  refine XL_split (t := 16) rfl (fun h1 => ?_) (fun h1 => ?_)
  · try simp only [decide_eq_true_eq, decide_eq_false_iff_not, Bool.not_eq_true', Bool.not_eq_false', beq_iff_eq, bne_iff_ne, beq_eq_false_iff_ne, bne_eq_false_iff_eq, Int.not_lt, Int.not_le, gt_iff_lt, ge_iff_le, ne_eq] at h1
    refine XL_skip 16 rfl rfl rfl rfl rfl ?_
    refine XL_skip 16 rfl rfl rfl rfl rfl ?_
    refine XL_skip 16 rfl rfl rfl rfl rfl ?_
    refine XL_det .no (D_pure rfl) rfl ?_
    refine XL_det .no (D_pure rfl) rfl ?_
    refine XL_skip 21 rfl rfl rfl rfl rfl ?_
    refine XL_skip 21 rfl rfl rfl rfl rfl ?_
    refine XL_skip 21 rfl rfl rfl rfl rfl ?_
    refine XL_det .no (D_pure rfl) rfl ?_
    refine XL_det .no (D_pure rfl) rfl ?_
    refine XL_skip 26 rfl rfl rfl rfl rfl ?_
    refine XL_skip 26 rfl rfl rfl rfl rfl ?_
    refine XL_skip 26 rfl rfl rfl rfl rfl ?_
    refine XL_det .no (D_pure rfl) rfl ?_
    refine XL_det .no (D_pure rfl) rfl ?_
    refine XL_skip 31 rfl rfl rfl rfl rfl ?_
    refine XL_skip 31 rfl rfl rfl rfl rfl ?_
    refine XL_skip 31 rfl rfl rfl rfl rfl ?_
    refine XL_det .no (D_pure rfl) rfl ?_
    refine XL_det .no (D_pure rfl) rfl ?_
    refine XL_skip 36 rfl rfl rfl rfl rfl ?_
    refine XL_skip 36 rfl rfl rfl rfl rfl ?_
    refine XL_skip 36 rfl rfl rfl rfl rfl ?_
    refine XL_det .no (D_pure rfl) rfl ?_
    refine XL_det .no (D_pure rfl) rfl ?_
    refine XL_skip 41 rfl rfl rfl rfl rfl ?_
    refine XL_skip 41 rfl rfl rfl rfl rfl ?_
    refine XL_skip 41 rfl rfl rfl rfl rfl ?_
    refine XL_det .no (D_pure rfl) rfl ?_
    refine XL_det .no (D_pure rfl) rfl ?_
    refine XL_skip 46 rfl rfl rfl rfl rfl ?_
    refine XL_skip 46 rfl rfl rfl rfl rfl ?_
    refine XL_skip 46 rfl rfl rfl rfl rfl ?_
    refine XL_det .no (D_pure rfl) rfl ?_
    refine XL_then ?_
    refine X_cond_t rfl rfl ?_
    refine X_seq ?_
    refine X_region ?_
    refine XL_det .no (D_pure rfl) rfl ?_
    refine XL_then ?_
    refine X_ret ?_
    refine thenX_ret ?_
    refine ret_ok (.nil _) (res_tmp rfl rfl) ?_
    exact ⟨_, ⟨rfl, rfl⟩, _, (by repeat first | with_reducible exact .nil _ | with_reducible exact .here _ _ | with_reducible exact Take.self _ | with_reducible apply Take.cons | with_reducible apply Out.there | with_reducible apply Take.skip)⟩
  · try simp only [decide_eq_true_eq, decide_eq_false_iff_not, Bool.not_eq_true', Bool.not_eq_false', beq_iff_eq, bne_iff_ne, beq_eq_false_iff_ne, bne_eq_false_iff_eq, Int.not_lt, Int.not_le, gt_iff_lt, ge_iff_le, ne_eq] at h1
    refine XL_det (.yes 16 rfl rfl rfl) (D_ldso rfl (by repeat first | with_reducible exact .here _ _ | with_reducible apply Out.there) tk_58 rfl (by rfl)) rfl ?_
    refine XL_callv (.yes 16 rfl rfl rfl) en_20 rfl (jright T) rfl ?_
    refine XL_det (.yes 16 rfl rfl rfl) (D_pure rfl) rfl ?_
    refine XL_det .no (D_pure rfl) rfl ?_
    refine XL_det .no (D_pure rfl) rfl ?_
    refine XL_split (t := 21) rfl (fun h2 => ?_) (fun h2 => ?_)
    · try simp only [decide_eq_true_eq, decide_eq_false_iff_not, Bool.not_eq_true', Bool.not_eq_false', beq_iff_eq, bne_iff_ne, beq_eq_false_iff_ne, bne_eq_false_iff_eq, Int.not_lt, Int.not_le, gt_iff_lt, ge_iff_le, ne_eq] at h2
      refine XL_skip 21 rfl rfl rfl rfl rfl ?_
      refine XL_skip 21 rfl rfl rfl rfl rfl ?_
      refine XL_skip 21 rfl rfl rfl rfl rfl ?_
      refine XL_det .no (D_pure rfl) rfl ?_
      refine XL_det .no (D_pure rfl) rfl ?_
      refine XL_skip 26 rfl rfl rfl rfl rfl ?_
      refine XL_skip 26 rfl rfl rfl rfl rfl ?_
      refine XL_skip 26 rfl rfl rfl rfl rfl ?_
      refine XL_det .no (D_pure rfl) rfl ?_
      refine XL_det .no (D_pure rfl) rfl ?_
      refine XL_skip 31 rfl rfl rfl rfl rfl ?_
      refine XL_skip 31 rfl rfl rfl rfl rfl ?_
      refine XL_skip 31 rfl rfl rfl rfl rfl ?_
      refine XL_det .no (D_pure rfl) rfl ?_
      refine XL_det .no (D_pure rfl) rfl ?_
      refine XL_skip 36 rfl rfl rfl rfl rfl ?_
      refine XL_skip 36 rfl rfl rfl rfl rfl ?_
      refine XL_skip 36 rfl rfl rfl rfl rfl ?_
      refine XL_det .no (D_pure rfl) rfl ?_
      refine XL_det .no (D_pure rfl) rfl ?_
      refine XL_skip 41 rfl rfl rfl rfl rfl ?_
      refine XL_skip 41 rfl rfl rfl rfl rfl ?_
      refine XL_skip 41 rfl rfl rfl rfl rfl ?_
      refine XL_det .no (D_pure rfl) rfl ?_
      refine XL_det .no (D_pure rfl) rfl ?_
      refine XL_skip 46 rfl rfl rfl rfl rfl ?_
      refine XL_skip 46 rfl rfl rfl rfl rfl ?_
      refine XL_skip 46 rfl rfl rfl rfl rfl ?_
      refine XL_det .no (D_pure rfl) rfl ?_
      refine XL_then ?_
      refine X_cond_t rfl rfl ?_
      refine X_seq ?_
      refine X_region ?_
      refine XL_det .no (D_pure rfl) rfl ?_
      refine XL_then ?_
      refine X_ret ?_
      refine thenX_ret ?_
      refine ret_ok (.nil _) (res_tmp rfl rfl) ?_
      exact ⟨_, ⟨rfl, rfl⟩, _, (by repeat first | with_reducible exact .nil _ | with_reducible exact .here _ _ | with_reducible exact Take.self _ | with_reducible apply Take.cons | with_reducible apply Out.there | with_reducible apply Take.skip)⟩
    · try simp only [decide_eq_true_eq, decide_eq_false_iff_not, Bool.not_eq_true', Bool.not_eq_false', beq_iff_eq, bne_iff_ne, beq_eq_false_iff_ne, bne_eq_false_iff_eq, Int.not_lt, Int.not_le, gt_iff_lt, ge_iff_le, ne_eq] at h2
      refine XL_det (.yes 21 rfl rfl rfl) (D_fld rfl fld_58_2 (o' := 2) rfl) rfl ?_
      refine XL_det (.yes 21 rfl rfl rfl) (D_ldo rfl (by repeat first | with_reducible exact .here _ _ | with_reducible apply Out.there) tk_3 (by rfl)) rfl ?_
      refine XL_det (.yes 21 rfl rfl rfl) (D_pure rfl) rfl ?_
      refine XL_det .no (D_pure rfl) rfl ?_
      refine XL_det .no (D_pure rfl) rfl ?_
      refine XL_split (t := 26) rfl (fun h3 => ?_) (fun h3 => ?_)
      · try simp only [decide_eq_true_eq, decide_eq_false_iff_not, Bool.not_eq_true', Bool.not_eq_false', beq_iff_eq, bne_iff_ne, beq_eq_false_iff_ne, bne_eq_false_iff_eq, Int.not_lt, Int.not_le, gt_iff_lt, ge_iff_le, ne_eq] at h3
        refine XL_skip 26 rfl rfl rfl rfl rfl ?_
        refine XL_skip 26 rfl rfl rfl rfl rfl ?_
        refine XL_skip 26 rfl rfl rfl rfl rfl ?_
        refine XL_det .no (D_pure rfl) rfl ?_
        refine XL_det .no (D_pure rfl) rfl ?_
        refine XL_skip 31 rfl rfl rfl rfl rfl ?_
        refine XL_skip 31 rfl rfl rfl rfl rfl ?_
        refine XL_skip 31 rfl rfl rfl rfl rfl ?_
        refine XL_det .no (D_pure rfl) rfl ?_
        refine XL_det .no (D_pure rfl) rfl ?_
        refine XL_skip 36 rfl rfl rfl rfl rfl ?_
        refine XL_skip 36 rfl rfl rfl rfl rfl ?_
        refine XL_skip 36 rfl rfl rfl rfl rfl ?_
        refine XL_det .no (D_pure rfl) rfl ?_
        refine XL_det .no (D_pure rfl) rfl ?_
        refine XL_skip 41 rfl rfl rfl rfl rfl ?_
        refine XL_skip 41 rfl rfl rfl rfl rfl ?_
        refine XL_skip 41 rfl rfl rfl rfl rfl ?_
        refine XL_det .no (D_pure rfl) rfl ?_
        refine XL_det .no (D_pure rfl) rfl ?_
        refine XL_skip 46 rfl rfl rfl rfl rfl ?_
        refine XL_skip 46 rfl rfl rfl rfl rfl ?_
        refine XL_skip 46 rfl rfl rfl rfl rfl ?_
        refine XL_det .no (D_pure rfl) rfl ?_
        refine XL_then ?_
        refine X_cond_t rfl rfl ?_
        refine X_seq ?_
        refine X_region ?_
        refine XL_det .no (D_pure rfl) rfl ?_
        refine XL_then ?_
        refine X_ret ?_
        refine thenX_ret ?_
        refine ret_ok (.nil _) (res_tmp rfl rfl) ?_
        exact ⟨_, ⟨rfl, rfl⟩, _, (by repeat first | with_reducible exact .nil _ | with_reducible exact .here _ _ | with_reducible exact Take.self _ | with_reducible apply Take.cons | with_reducible apply Out.there | with_reducible apply Take.skip)⟩
      · try simp only [decide_eq_true_eq, decide_eq_false_iff_not, Bool.not_eq_true', Bool.not_eq_false', beq_iff_eq, bne_iff_ne, beq_eq_false_iff_ne, bne_eq_false_iff_eq, Int.not_lt, Int.not_le, gt_iff_lt, ge_iff_le, ne_eq] at h3
        refine XL_det (.yes 26 rfl rfl rfl) (D_fld rfl fld_58_2 (o' := 2) rfl) rfl ?_
        refine XL_det (.yes 26 rfl rfl rfl) (D_ldo rfl (by repeat first | with_reducible exact .here _ _ | with_reducible apply Out.there) tk_3 (by rfl)) rfl ?_
        refine XL_det (.yes 26 rfl rfl rfl) (D_pure rfl) rfl ?_
        refine XL_det .no (D_pure rfl) rfl ?_
        refine XL_det .no (D_pure rfl) rfl ?_
        refine XL_split (t := 31) rfl (fun h4 => ?_) (fun h4 => ?_)
        · try simp only [decide_eq_true_eq, decide_eq_false_iff_not, Bool.not_eq_true', Bool.not_eq_false', beq_iff_eq, bne_iff_ne, beq_eq_false_iff_ne, bne_eq_false_iff_eq, Int.not_lt, Int.not_le, gt_iff_lt, ge_iff_le, ne_eq] at h4
          refine XL_skip 31 rfl rfl rfl rfl rfl ?_
          refine XL_skip 31 rfl rfl rfl rfl rfl ?_
          refine XL_skip 31 rfl rfl rfl rfl rfl ?_
          refine XL_det .no (D_pure rfl) rfl ?_
          refine XL_det .no (D_pure rfl) rfl ?_
          refine XL_skip 36 rfl rfl rfl rfl rfl ?_
          refine XL_skip 36 rfl rfl rfl rfl rfl ?_
          refine XL_skip 36 rfl rfl rfl rfl rfl ?_
          refine XL_det .no (D_pure rfl) rfl ?_
          refine XL_det .no (D_pure rfl) rfl ?_
          refine XL_skip 41 rfl rfl rfl rfl rfl ?_
          refine XL_skip 41 rfl rfl rfl rfl rfl ?_
          refine XL_skip 41 rfl rfl rfl rfl rfl ?_
          refine XL_det .no (D_pure rfl) rfl ?_
          refine XL_det .no (D_pure rfl) rfl ?_
          refine XL_skip 46 rfl rfl rfl rfl rfl ?_
          refine XL_skip 46 rfl rfl rfl rfl rfl ?_
          refine XL_skip 46 rfl rfl rfl rfl rfl ?_
          refine XL_det .no (D_pure rfl) rfl ?_
          refine XL_then ?_
          refine X_cond_t rfl rfl ?_
          refine X_seq ?_
          refine X_region ?_
          refine XL_det .no (D_pure rfl) rfl ?_
          refine XL_then ?_
          refine X_ret ?_
          refine thenX_ret ?_
          refine ret_ok (.nil _) (res_tmp rfl rfl) ?_
          exact ⟨_, ⟨rfl, rfl⟩, _, (by repeat first | with_reducible exact .nil _ | with_reducible exact .here _ _ | with_reducible exact Take.self _ | with_reducible apply Take.cons | with_reducible apply Out.there | with_reducible apply Take.skip)⟩
        · try simp only [decide_eq_true_eq, decide_eq_false_iff_not, Bool.not_eq_true', Bool.not_eq_false', beq_iff_eq, bne_iff_ne, beq_eq_false_iff_ne, bne_eq_false_iff_eq, Int.not_lt, Int.not_le, gt_iff_lt, ge_iff_le, ne_eq] at h4
          refine XL_det (.yes 31 rfl rfl rfl) (D_fld rfl fld_58_1 (o' := 1) rfl) rfl ?_
          refine XL_det (.yes 31 rfl rfl rfl) (D_ldo rfl (by repeat first | with_reducible exact .here _ _ | with_reducible apply Out.there) tk_3 (by rfl)) rfl ?_
          refine XL_det (.yes 31 rfl rfl rfl) (D_pure rfl) rfl ?_
          refine XL_det .no (D_pure rfl) rfl ?_
          refine XL_det .no (D_pure rfl) rfl ?_
          refine XL_split (t := 36) rfl (fun h5 => ?_) (fun h5 => ?_)
          · try simp only [decide_eq_true_eq, decide_eq_false_iff_not, Bool.not_eq_true', Bool.not_eq_false', beq_iff_eq, bne_iff_ne, beq_eq_false_iff_ne, bne_eq_false_iff_eq, Int.not_lt, Int.not_le, gt_iff_lt, ge_iff_le, ne_eq] at h5
            refine XL_skip 36 rfl rfl rfl rfl rfl ?_
            refine XL_skip 36 rfl rfl rfl rfl rfl ?_
            refine XL_skip 36 rfl rfl rfl rfl rfl ?_
            refine XL_det .no (D_pure rfl) rfl ?_
            refine XL_det .no (D_pure rfl) rfl ?_
            refine XL_skip 41 rfl rfl rfl rfl rfl ?_
            refine XL_skip 41 rfl rfl rfl rfl rfl ?_
            refine XL_skip 41 rfl rfl rfl rfl rfl ?_
            refine XL_det .no (D_pure rfl) rfl ?_
            refine XL_det .no (D_pure rfl) rfl ?_
            refine XL_skip 46 rfl rfl rfl rfl rfl ?_
            refine XL_skip 46 rfl rfl rfl rfl rfl ?_
            refine XL_skip 46 rfl rfl rfl rfl rfl ?_
            refine XL_det .no (D_pure rfl) rfl ?_
            refine XL_then ?_
            refine X_cond_t rfl rfl ?_
            refine X_seq ?_
            refine X_region ?_
            refine XL_det .no (D_pure rfl) rfl ?_
            refine XL_then ?_
            refine X_ret ?_
            refine thenX_ret ?_
            refine ret_ok (.nil _) (res_tmp rfl rfl) ?_
            exact ⟨_, ⟨rfl, rfl⟩, _, (by repeat first | with_reducible exact .nil _ | with_reducible exact .here _ _ | with_reducible exact Take.self _ | with_reducible apply Take.cons | with_reducible apply Out.there | with_reducible apply Take.skip)⟩
          · try simp only [decide_eq_true_eq, decide_eq_false_iff_not, Bool.not_eq_true', Bool.not_eq_false', beq_iff_eq, bne_iff_ne, beq_eq_false_iff_ne, bne_eq_false_iff_eq, Int.not_lt, Int.not_le, gt_iff_lt, ge_iff_le, ne_eq] at h5
            refine XL_det (.yes 36 rfl rfl rfl) (D_fld rfl fld_58_1 (o' := 1) rfl) rfl ?_
            refine XL_det (.yes 36 rfl rfl rfl) (D_ldo rfl (by repeat first | with_reducible exact .here _ _ | with_reducible apply Out.there) tk_3 (by rfl)) rfl ?_
            refine XL_det (.yes 36 rfl rfl rfl) (D_pure rfl) rfl ?_
            refine XL_det .no (D_pure rfl) rfl ?_
            refine XL_det .no (D_pure rfl) rfl ?_
            refine XL_split (t := 41) rfl (fun h6 => ?_) (fun h6 => ?_)
            · try simp only [decide_eq_true_eq, decide_eq_false_iff_not, Bool.not_eq_true', Bool.not_eq_false', beq_iff_eq, bne_iff_ne, beq_eq_false_iff_ne, bne_eq_false_iff_eq, Int.not_lt, Int.not_le, gt_iff_lt, ge_iff_le, ne_eq] at h6
              refine XL_skip 41 rfl rfl rfl rfl rfl ?_
              refine XL_skip 41 rfl rfl rfl rfl rfl ?_
              refine XL_skip 41 rfl rfl rfl rfl rfl ?_
              refine XL_det .no (D_pure rfl) rfl ?_
              refine XL_det .no (D_pure rfl) rfl ?_
              refine XL_skip 46 rfl rfl rfl rfl rfl ?_
              refine XL_skip 46 rfl rfl rfl rfl rfl ?_
              refine XL_skip 46 rfl rfl rfl rfl rfl ?_
              refine XL_det .no (D_pure rfl) rfl ?_
              refine XL_then ?_
              refine X_cond_t rfl rfl ?_
              refine X_seq ?_
              refine X_region ?_
              refine XL_det .no (D_pure rfl) rfl ?_
              refine XL_then ?_
              refine X_ret ?_
              refine thenX_ret ?_
              refine ret_ok (.nil _) (res_tmp rfl rfl) ?_
              exact ⟨_, ⟨rfl, rfl⟩, _, (by repeat first | with_reducible exact .nil _ | with_reducible exact .here _ _ | with_reducible exact Take.self _ | with_reducible apply Take.cons | with_reducible apply Out.there | with_reducible apply Take.skip)⟩
            · try simp only [decide_eq_true_eq, decide_eq_false_iff_not, Bool.not_eq_true', Bool.not_eq_false', beq_iff_eq, bne_iff_ne, beq_eq_false_iff_ne, bne_eq_false_iff_eq, Int.not_lt, Int.not_le, gt_iff_lt, ge_iff_le, ne_eq] at h6
              refine XL_det (.yes 41 rfl rfl rfl) (D_fld rfl fld_65_1 (o' := 1) rfl) rfl ?_
              refine XL_det (.yes 41 rfl rfl rfl) (D_ldo rfl (by repeat first | with_reducible exact .here _ _ | with_reducible apply Out.there) tk_3 (by rfl)) rfl ?_
              refine XL_det (.yes 41 rfl rfl rfl) (D_pure rfl) rfl ?_
              refine XL_det .no (D_pure rfl) rfl ?_
              refine XL_det .no (D_pure rfl) rfl ?_
              refine XL_split (t := 46) rfl (fun h7 => ?_) (fun h7 => ?_)
              · try simp only [decide_eq_true_eq, decide_eq_false_iff_not, Bool.not_eq_true', Bool.not_eq_false', beq_iff_eq, bne_iff_ne, beq_eq_false_iff_ne, bne_eq_false_iff_eq, Int.not_lt, Int.not_le, gt_iff_lt, ge_iff_le, ne_eq] at h7
                refine XL_skip 46 rfl rfl rfl rfl rfl ?_
                refine XL_skip 46 rfl rfl rfl rfl rfl ?_
                refine XL_skip 46 rfl rfl rfl rfl rfl ?_
                refine XL_det .no (D_pure rfl) rfl ?_
                refine XL_then ?_
                refine X_cond_t rfl rfl ?_
                refine X_seq ?_
                refine X_region ?_
                refine XL_det .no (D_pure rfl) rfl ?_
                refine XL_then ?_
                refine X_ret ?_
                refine thenX_ret ?_
                refine ret_ok (.nil _) (res_tmp rfl rfl) ?_
                exact ⟨_, ⟨rfl, rfl⟩, _, (by repeat first | with_reducible exact .nil _ | with_reducible exact .here _ _ | with_reducible exact Take.self _ | with_reducible apply Take.cons | with_reducible apply Out.there | with_reducible apply Take.skip)⟩
              · try simp only [decide_eq_true_eq, decide_eq_false_iff_not, Bool.not_eq_true', Bool.not_eq_false', beq_iff_eq, bne_iff_ne, beq_eq_false_iff_ne, bne_eq_false_iff_eq, Int.not_lt, Int.not_le, gt_iff_lt, ge_iff_le, ne_eq] at h7
                refine XL_det (.yes 46 rfl rfl rfl) (D_fld rfl fld_65_1 (o' := 1) rfl) rfl ?_
                refine XL_det (.yes 46 rfl rfl rfl) (D_ldo rfl (by repeat first | with_reducible exact .here _ _ | with_reducible apply Out.there) tk_3 (by rfl)) rfl ?_
                refine XL_det (.yes 46 rfl rfl rfl) (D_pure rfl) rfl ?_
                refine XL_det .no (D_pure rfl) rfl ?_
                refine XL_then ?_
                refine X_cond rfl (fun h8 => ?_) (fun h8 => ?_)
                · try simp only [decide_eq_true_eq, decide_eq_false_iff_not, Bool.not_eq_true', Bool.not_eq_false', beq_iff_eq, bne_iff_ne, beq_eq_false_iff_ne, bne_eq_false_iff_eq, Int.not_lt, Int.not_le, gt_iff_lt, ge_iff_le, ne_eq] at h8
                  refine X_seq ?_
                  refine X_region ?_
                  refine XL_det .no (D_pure rfl) rfl ?_
                  refine XL_then ?_
                  refine X_ret ?_
                  refine thenX_ret ?_
                  refine ret_ok (.nil _) (res_tmp rfl rfl) ?_
                  exact ⟨_, ⟨rfl, rfl⟩, _, (by repeat first | with_reducible exact .nil _ | with_reducible exact .here _ _ | with_reducible exact Take.self _ | with_reducible apply Take.cons | with_reducible apply Out.there | with_reducible apply Take.skip)⟩
                · try simp only [decide_eq_true_eq, decide_eq_false_iff_not, Bool.not_eq_true', Bool.not_eq_false', beq_iff_eq, bne_iff_ne, beq_eq_false_iff_ne, bne_eq_false_iff_eq, Int.not_lt, Int.not_le, gt_iff_lt, ge_iff_le, ne_eq] at h8
                  have hT := rightB_all (T := T) (by simpa using h2)
                  refine X_skip ?_
                  refine thenX_normal ?_
                  refine X_seq ?_
                  refine X_region ?_
                  refine XL_det .no (D_fld rfl fld_65_2 (o' := 2) rfl) rfl ?_
                  refine XL_det .no (D_ldo rfl (by repeat first | with_reducible exact .here _ _ | with_reducible apply Out.there) tk_3 (by rfl)) rfl ?_
                  refine XL_det .no (D_pure rfl) rfl ?_
                  refine XL_then ?_
                  refine X_seqj (α := Int) (fun c0 => c0 = max co 1) (fun c0 => [(5, .int .i64 c0), (2, .pointer (some ⟨b1, 0, none⟩)), (3, .pointer (some ⟨b2, 0, none⟩))]) (fun c0 => [blk b1 (encT T) 58, blk b2 [.int .i64 id, .int .i64 now, .int .i64 co, .slice l.oad l.l.length l.c] 65, K]) ?_ ?_
                  · skip
                    refine X_seq ?_
                    refine X_region ?_
                    refine XL_det .no (D_pure rfl) rfl ?_
                    refine XL_det .no (D_pure rfl) rfl ?_
                    refine XL_then ?_
                    refine X_cond rfl (fun h9 => ?_) (fun h9 => ?_)
                    · try simp only [decide_eq_true_eq, decide_eq_false_iff_not, Bool.not_eq_true', Bool.not_eq_false', beq_iff_eq, bne_iff_ne, beq_eq_false_iff_ne, bne_eq_false_iff_eq, Int.not_lt, Int.not_le, gt_iff_lt, ge_iff_le, ne_eq] at h9
                      refine X_region ?_
                      refine XL_det .no (D_pure rfl) rfl ?_
                      refine XL_nil ?_
                      refine joinQ_normal 1 ?_ ?_ ?_
                      · omega
                      · refine ⟨?_, ?_, ?_, trivial⟩ <;> rfl
                      · exact ⟨_, (by repeat first | with_reducible exact .nil _ | with_reducible exact .here _ _ | with_reducible exact Take.self _ | with_reducible apply Take.cons | with_reducible apply Out.there | with_reducible apply Take.skip)⟩
                    · try simp only [decide_eq_true_eq, decide_eq_false_iff_not, Bool.not_eq_true', Bool.not_eq_false', beq_iff_eq, bne_iff_ne, beq_eq_false_iff_ne, bne_eq_false_iff_eq, Int.not_lt, Int.not_le, gt_iff_lt, ge_iff_le, ne_eq] at h9
                      refine X_skip ?_
                      refine joinQ_normal co ?_ ?_ ?_
                      · omega
                      · refine ⟨?_, ?_, ?_, trivial⟩ <;> rfl
                      · exact ⟨_, (by repeat first | with_reducible exact .nil _ | with_reducible exact .here _ _ | with_reducible exact Take.self _ | with_reducible apply Take.cons | with_reducible apply Out.there | with_reducible apply Take.skip)⟩
                  · intro c0 hc0
                    refine X_seqj (α := Int) (fun c => c = min (max co 1) (T 2)) (fun c => [(5, .int .i64 c), (2, .pointer (some ⟨b1, 0, none⟩)), (3, .pointer (some ⟨b2, 0, none⟩))]) (fun c => [blk b1 (encT T) 58, blk b2 [.int .i64 id, .int .i64 now, .int .i64 co, .slice l.oad l.l.length l.c] 65, K]) ?_ ?_
                    · skip
                      refine X_seq ?_
                      refine X_region ?_
                      refine XL_det .no (D_pure rfl) rfl ?_
                      refine XL_det .no (D_fld rfl fld_58_2 (o' := 2) rfl) rfl ?_
                      refine XL_det .no (D_ldo rfl (by repeat first | with_reducible exact .here _ _ | with_reducible apply Out.there) tk_3 (by rfl)) rfl ?_
                      refine XL_det .no (D_pure rfl) rfl ?_
                      refine XL_then ?_
                      refine X_cond rfl (fun h10 => ?_) (fun h10 => ?_)
                      · try simp only [decide_eq_true_eq, decide_eq_false_iff_not, Bool.not_eq_true', Bool.not_eq_false', beq_iff_eq, bne_iff_ne, beq_eq_false_iff_ne, bne_eq_false_iff_eq, Int.not_lt, Int.not_le, gt_iff_lt, ge_iff_le, ne_eq] at h10
                        refine X_region ?_
                        refine XL_det .no (D_fld rfl fld_58_2 (o' := 2) rfl) rfl ?_
                        refine XL_det .no (D_ldo rfl (by repeat first | with_reducible exact .here _ _ | with_reducible apply Out.there) tk_3 (by rfl)) rfl ?_
                        refine XL_det .no (D_pure rfl) rfl ?_
                        refine XL_nil ?_
                        refine joinQ_normal (T 2) ?_ ?_ ?_
                        · omega
                        · refine ⟨?_, ?_, ?_, trivial⟩ <;> rfl
                        · exact ⟨_, (by repeat first | with_reducible exact .nil _ | with_reducible exact .here _ _ | with_reducible exact Take.self _ | with_reducible apply Take.cons | with_reducible apply Out.there | with_reducible apply Take.skip)⟩
                      · try simp only [decide_eq_true_eq, decide_eq_false_iff_not, Bool.not_eq_true', Bool.not_eq_false', beq_iff_eq, bne_iff_ne, beq_eq_false_iff_ne, bne_eq_false_iff_eq, Int.not_lt, Int.not_le, gt_iff_lt, ge_iff_le, ne_eq] at h10
                        refine X_skip ?_
                        refine joinQ_normal c0 ?_ ?_ ?_
                        · omega
                        · refine ⟨?_, ?_, ?_, trivial⟩ <;> rfl
                        · exact ⟨_, (by repeat first | with_reducible exact .nil _ | with_reducible exact .here _ _ | with_reducible exact Take.self _ | with_reducible apply Take.cons | with_reducible apply Out.there | with_reducible apply Take.skip)⟩
                    · intro c hc
                      refine X_seq ?_
                      refine X_region ?_
                      refine XL_det .no (D_fld rfl fld_65_0 (o' := 0) rfl) rfl ?_
                      refine XL_det .no (D_ldo rfl (by repeat first | with_reducible exact .here _ _ | with_reducible apply Out.there) tk_3 (by rfl)) rfl ?_
                      refine XL_det .no (D_ldso rfl (by repeat first | with_reducible exact .here _ _ | with_reducible apply Out.there) tk_58 rfl (by rfl)) rfl ?_
                      refine XL_det .no (D_fld rfl fld_65_1 (o' := 1) rfl) rfl ?_
                      refine XL_det .no (D_ldo rfl (by repeat first | with_reducible exact .here _ _ | with_reducible apply Out.there) tk_3 (by rfl)) rfl ?_
                      refine XL_det .no (D_fld rfl fld_65_2 (o' := 2) rfl) rfl ?_
                      refine XL_det .no (D_ldo rfl (by repeat first | with_reducible exact .here _ _ | with_reducible apply Out.there) tk_3 (by rfl)) rfl ?_
                      refine XL_det .no (D_fld rfl fld_65_3 (o' := 3) rfl) rfl ?_
                      refine XL_det .no (D_ldo rfl (by repeat first | with_reducible exact .here _ _ | with_reducible apply Out.there) tk_59 (by rfl)) rfl ?_
                      refine XL_call .no en_25 rfl (jnew id now T co l hl hT (by omega) (by omega) (by omega)) (by repeat first | with_reducible exact .nil _ | with_reducible exact .here _ _ | with_reducible exact Take.self _ | with_reducible apply Take.cons | with_reducible apply Out.there | with_reducible apply Take.skip) rfl ?_
                      rintro _ _ ⟨x, ⟨hx1, hx2⟩, rfl, rfl⟩
                      simp only [List.cons_append, List.nil_append]
                      rw [← hc] at hx1 ⊢
                      refine XL_alloc .no zero_67 rfl (fun b3 => ?_)
                      refine XL_efd .no (F_stw rfl rfl rfl (by repeat first | with_reducible exact .here _ _ | with_reducible apply Out.there) tk_67 rfl rfl) ?_
                      refine XL_then ?_
                      refine X_seq ?_
                      refine X_region ?_
                      refine XL_det .no (D_ldso rfl (by repeat first | with_reducible exact .here _ _ | with_reducible apply Out.there) tk_58 rfl (by rfl)) rfl ?_
                      refine XL_det .no (D_pure rfl) rfl ?_
                      refine XL_det .no (D_fld rfl fld_65_3 (o' := 3) rfl) rfl ?_
                      refine XL_det .no (D_ldo rfl (by repeat first | with_reducible exact .here _ _ | with_reducible apply Out.there) tk_59 (by rfl)) rfl ?_
                      refine XL_call .no en_23 rfl (jref T c l hl hT (by omega)) (by repeat first | with_reducible exact .nil _ | with_reducible exact .here _ _ | with_reducible exact Take.self _ | with_reducible apply Take.cons | with_reducible apply Out.there | with_reducible apply Take.skip) rfl ?_
                      rintro _ _ ⟨y, ⟨hy1, hy2⟩, rfl, rfl⟩
                      simp only [List.cons_append, List.nil_append]
                      refine XL_det .no (D_pure rfl) rfl ?_
                      refine XL_then ?_
                      refine X_seq ?_
                      refine X_seq ?_
                      refine X_region ?_
                      refine XL_det .no (D_fld rfl fld_67_0 (o' := 0) rfl) rfl ?_
                      refine XL_det .no (D_ldo rfl (by repeat first | with_reducible exact .here _ _ | with_reducible apply Out.there) tk_3 (by rfl)) rfl ?_
                      refine XL_det .no (D_fld rfl fld_65_0 (o' := 0) rfl) rfl ?_
                      refine XL_det .no (D_ldo rfl (by repeat first | with_reducible exact .here _ _ | with_reducible apply Out.there) tk_3 (by rfl)) rfl ?_
                      refine XL_det .no (D_pure (v := .bool false) (bf (rfl))) rfl ?_
                      refine XL_det .no (D_pure rfl) rfl ?_
                      refine XL_det (.yes 81 rfl rfl rfl) (D_fld rfl fld_67_1 (o' := 1) rfl) rfl ?_
                      refine XL_det (.yes 81 rfl rfl rfl) (D_ldo rfl (by repeat first | with_reducible exact .here _ _ | with_reducible apply Out.there) tk_3 (by rfl)) rfl ?_
                      refine XL_det (.yes 81 rfl rfl rfl) (D_fld rfl fld_65_1 (o' := 1) rfl) rfl ?_
                      refine XL_det (.yes 81 rfl rfl rfl) (D_ldo rfl (by repeat first | with_reducible exact .here _ _ | with_reducible apply Out.there) tk_3 (by rfl)) rfl ?_
                      refine XL_det (.yes 81 rfl rfl rfl) (D_pure (v := .bool false) (bf (rfl))) rfl ?_
                      refine XL_det .no (D_pure rfl) rfl ?_
                      refine XL_det .no (D_pure rfl) rfl ?_
                      refine XL_det (.yes 88 rfl rfl rfl) (D_fld rfl fld_67_2 (o' := 2) rfl) rfl ?_
                      refine XL_det (.yes 88 rfl rfl rfl) (D_ldo rfl (by repeat first | with_reducible exact .here _ _ | with_reducible apply Out.there) tk_3 (by rfl)) rfl ?_
                      refine XL_det (.yes 88 rfl rfl rfl) (D_fld rfl fld_65_1 (o' := 1) rfl) rfl ?_
                      refine XL_det (.yes 88 rfl rfl rfl) (D_ldo rfl (by repeat first | with_reducible exact .here _ _ | with_reducible apply Out.there) tk_3 (by rfl)) rfl ?_
                      refine XL_det (.yes 88 rfl rfl rfl) (D_fld rfl fld_58_1 (o' := 1) rfl) rfl ?_
                      refine XL_det (.yes 88 rfl rfl rfl) (D_ldo rfl (by repeat first | with_reducible exact .here _ _ | with_reducible apply Out.there) tk_3 (by rfl)) rfl ?_
                      refine XL_det (.yes 88 rfl rfl rfl) (D_add rfl rfl (by omega) (by omega)) rfl ?_
                      refine XL_det (.yes 88 rfl rfl rfl) (D_pure (v := .bool false) (bf (rfl))) rfl ?_
                      refine XL_det .no (D_pure rfl) rfl ?_
                      refine XL_det .no (D_pure rfl) rfl ?_
                      refine XL_det (.yes 98 rfl rfl rfl) (D_fld rfl fld_67_3 (o' := 3) rfl) rfl ?_
                      refine XL_det (.yes 98 rfl rfl rfl) (D_ldo rfl (by repeat first | with_reducible exact .here _ _ | with_reducible apply Out.there) tk_3 (by rfl)) rfl ?_
                      refine XL_det (.yes 98 rfl rfl rfl) (D_pure rfl) rfl ?_
                      refine XL_det (.yes 98 rfl rfl rfl) (D_pure (v := .bool false) (bf (rfl))) rfl ?_
                      refine XL_det .no (D_pure rfl) rfl ?_
                      refine XL_det .no (D_pure rfl) rfl ?_
                      refine XL_det (.yes 104 rfl rfl rfl) (D_fld rfl fld_67_4 (o' := 4) rfl) rfl ?_
                      refine XL_det (.yes 104 rfl rfl rfl) (D_ldo rfl (by repeat first | with_reducible exact .here _ _ | with_reducible apply Out.there) tk_3 (by rfl)) rfl ?_
                      refine XL_det (.yes 104 rfl rfl rfl) (D_pure (v := .bool false) (bf (rfl))) rfl ?_
                      refine XL_det .no (D_pure rfl) rfl ?_
                      refine XL_det .no (D_pure rfl) rfl ?_
                      refine XL_det (.yes 109 rfl rfl rfl) (D_fld rfl fld_67_5 (o' := 5) rfl) rfl ?_
                      refine XL_det (.yes 109 rfl rfl rfl) (D_ldo rfl (by repeat first | with_reducible exact .here _ _ | with_reducible apply Out.there) tk_59 (by rfl)) rfl ?_
                      refine XL_det (.yes 109 rfl rfl rfl) (D_pure rfl) rfl ?_
                      refine XL_callk (.yes 109 rfl rfl rfl) en_21 rfl (row_yes (jrow x y (Rd_own hx2 rfl) (Rd_own hy2 rfl)) (hx1.trans hy1.symm)) (by repeat first | with_reducible exact .nil _ | with_reducible exact .here _ _ | with_reducible exact Take.self _ | with_reducible apply Take.cons | with_reducible apply Out.there | with_reducible apply Take.skip) rfl ?_
                      refine XL_det (.yes 109 rfl rfl rfl) (D_pure rfl) rfl ?_
                      refine XL_det .no (D_pure rfl) rfl ?_
                      refine XL_then ?_
                      refine X_cond_f rfl rfl ?_
                      refine X_skip ?_
                      refine thenX_normal ?_
                      refine X_seq ?_
                      refine X_region ?_
                      refine XL_det .no (D_pure rfl) rfl ?_
                      refine XL_det .no (D_pure rfl) rfl ?_
                      refine XL_then ?_
                      refine X_seq ?_
                      refine X_seq ?_
                      refine X_region ?_
                      refine XL_det .no (D_pure rfl) rfl ?_
                      refine XL_then ?_
                      refine X_block ?_
                      refine X_loop (α := Nat × Int × Int) (fun ⟨i, held, last⟩ => (i : Int) ≤ c ∧ 0 ≤ held ∧ held ≤ i ∧ heldOk (secs T c 0 0 l.l) i held last) (fun ⟨i, held, last⟩ => [(10, .int .i64 (i : Int)), (8, .int .i64 held), (9, .int .i64 last), (2, .pointer (some ⟨b1, 0, none⟩)), (5, .int .i64 c), (6, .pointer (some ⟨b3, 0, none⟩)), (7, .slice y.oad y.l.length y.c)]) (fun ⟨i, held, last⟩ => [blk b1 (encT T) 58, blk b3 [.int .i64 id, .int .i64 now, .int .i64 (now + T 1), .int .i64 c, .int .i64 (i : Int), .slice x.oad x.l.length x.c] 67, row (.slice x.oad x.l.length x.c) 78 3 x.l.length (x.l.flatMap encS), row (.slice y.oad y.l.length y.c) 78 3 y.l.length (y.l.flatMap encS), K]) (fun ⟨i, held, last⟩ => (c - i).toNat) (0, 0, -1) ?_ (by refine ⟨?_, ?_, ?_, ?_, ?_, ?_, ?_, trivial⟩ <;> rfl) (by repeat first | with_reducible exact .nil _ | with_reducible exact .here _ _ | exact .here _ _ | with_reducible exact Take.self _ | with_reducible apply Take.cons | with_reducible apply Out.there | with_reducible apply Take.skip) ?_
                      · exact ⟨by omega, by decide, by decide, .inl (by decide)⟩
                      · rintro ⟨i, held, last⟩ ⟨hi, hd0, hd1, hho⟩
                        dsimp only
                        refine X_seq ?_
                        refine X_seq ?_
                        refine X_region ?_
                        refine XL_det .no (D_pure rfl) rfl ?_
                        refine XL_det .no (D_pure rfl) rfl ?_
                        refine XL_det .no (D_pure rfl) rfl ?_
                        refine XL_then ?_
                        refine X_cond rfl (fun h11 => ?_) (fun h11 => ?_)
                        · try simp only [decide_eq_true_eq, decide_eq_false_iff_not, Bool.not_eq_true', Bool.not_eq_false', beq_iff_eq, bne_iff_ne, beq_eq_false_iff_ne, bne_eq_false_iff_eq, Int.not_lt, Int.not_le, gt_iff_lt, ge_iff_le, ne_eq] at h11
                          refine X_skip ?_
                          refine thenX_normal ?_
                          refine X_seq ?_
                          refine X_block ?_
                          refine X_seq ?_
                          refine X_region ?_
                          refine XL_det .no (D_ldso rfl (by repeat first | with_reducible exact .here _ _ | with_reducible apply Out.there) tk_67 rfl (by rfl)) rfl ?_
                          refine XL_callk .no en_26 rfl (jtakes id now (now + T 1) c i x (Rd_own hx2 rfl)) (by repeat first | with_reducible exact .nil _ | with_reducible exact .here _ _ | with_reducible exact Take.self _ | with_reducible apply Take.cons | with_reducible apply Out.there | with_reducible apply Take.skip) rfl ?_
                          refine XL_det .no (D_pure rfl) rfl ?_
                          refine XL_then ?_
                          refine X_seqj (α := Int) (fun hh => hh = (if (resOf (x.l.find? (takesP i))) ≠ last then 0 else held)) (fun hh => [(8, .int .i64 hh), (11, .int .i64 (resOf (x.l.find? (takesP i)))), (9, .int .i64 last), (10, .int .i64 (i : Int)), (2, .pointer (some ⟨b1, 0, none⟩)), (5, .int .i64 c), (6, .pointer (some ⟨b3, 0, none⟩)), (7, .slice y.oad y.l.length y.c)]) (fun hh => [blk b1 (encT T) 58, blk b3 [.int .i64 id, .int .i64 now, .int .i64 (now + T 1), .int .i64 c, .int .i64 (i : Int), .slice x.oad x.l.length x.c] 67, row (.slice x.oad x.l.length x.c) 78 3 x.l.length (x.l.flatMap encS), row (.slice y.oad y.l.length y.c) 78 3 y.l.length (y.l.flatMap encS), K]) ?_ ?_
                          · skip
                            refine X_seq ?_
                            refine X_region ?_
                            refine XL_det .no (D_pure rfl) rfl ?_
                            refine XL_det .no (D_pure rfl) rfl ?_
                            refine XL_det .no (D_pure rfl) rfl ?_
                            refine XL_then ?_
                            refine X_cond rfl (fun h12 => ?_) (fun h12 => ?_)
                            · try simp only [decide_eq_true_eq, decide_eq_false_iff_not, Bool.not_eq_true', Bool.not_eq_false', beq_iff_eq, bne_iff_ne, beq_eq_false_iff_ne, bne_eq_false_iff_eq, Int.not_lt, Int.not_le, gt_iff_lt, ge_iff_le, ne_eq] at h12
                              refine X_region ?_
                              refine XL_det .no (D_pure rfl) rfl ?_
                              refine XL_nil ?_
                              refine joinQ_normal 0 ?_ ?_ ?_
                              · rw [if_pos (by assumption)]
                              · refine ⟨?_, ?_, ?_, ?_, ?_, ?_, ?_, ?_, trivial⟩ <;> rfl
                              · exact ⟨_, (by repeat first | with_reducible exact .nil _ | with_reducible exact .here _ _ | with_reducible exact Take.self _ | with_reducible apply Take.cons | with_reducible apply Out.there | with_reducible apply Take.skip)⟩
                            · try simp only [decide_eq_true_eq, decide_eq_false_iff_not, Bool.not_eq_true', Bool.not_eq_false', beq_iff_eq, bne_iff_ne, beq_eq_false_iff_ne, bne_eq_false_iff_eq, Int.not_lt, Int.not_le, gt_iff_lt, ge_iff_le, ne_eq] at h12
                              refine X_skip ?_
                              refine joinQ_normal held ?_ ?_ ?_
                              · rw [if_neg (by omega)]
                              · refine ⟨?_, ?_, ?_, ?_, ?_, ?_, ?_, ?_, trivial⟩ <;> rfl
                              · exact ⟨_, (by repeat first | with_reducible exact .nil _ | with_reducible exact .here _ _ | with_reducible exact Take.self _ | with_reducible apply Take.cons | with_reducible apply Out.there | with_reducible apply Take.skip)⟩
                          · intro hh hhh
                            refine X_seq ?_
                            refine X_seq ?_
                            refine X_region ?_
                            refine XL_det .no (D_ldso rfl (by repeat first | with_reducible exact .here _ _ | with_reducible apply Out.there) tk_67 rfl (by rfl)) rfl ?_
                            refine XL_callv .no en_27 rfl (say false (jover id now (now + T 1) c i x) (decide_eq_false (by omega))) rfl ?_
                            refine XL_det .no (D_pure rfl) rfl ?_
                            refine XL_det (.yes 128 rfl rfl rfl) (D_ldso rfl (by repeat first | with_reducible exact .here _ _ | with_reducible apply Out.there) tk_67 rfl (by rfl)) rfl ?_
                            refine XL_callk (.yes 128 rfl rfl rfl) en_28 rfl (jholds id now (now + T 1) c i x (Rd_own hx2 rfl)) (by repeat first | with_reducible exact .nil _ | with_reducible exact .here _ _ | with_reducible exact Take.self _ | with_reducible apply Take.cons | with_reducible apply Out.there | with_reducible apply Take.skip) rfl ?_
                            refine XL_det (.yes 128 rfl rfl rfl) (D_pure rfl) rfl ?_
                            refine XL_det (.yes 128 rfl rfl rfl) (D_pure rfl) rfl ?_
                            refine XL_callk (.yes 128 rfl rfl rfl) en_29 rfl (rholds y (Rd_own hy2 rfl) i false) (by repeat first | with_reducible exact .nil _ | with_reducible exact .here _ _ | with_reducible exact Take.self _ | with_reducible apply Take.cons | with_reducible apply Out.there | with_reducible apply Take.skip) rfl ?_
                            refine XL_det (.yes 128 rfl rfl rfl) (D_pure (v := .bool false) (bf (by rw [hx1, hy1]; rfl))) rfl ?_
                            refine XL_det .no (D_pure rfl) rfl ?_
                            refine XL_det .no (D_pure rfl) rfl ?_
                            refine XL_det (.yes 136 rfl rfl rfl) (D_pure rfl) rfl ?_
                            refine XL_det (.yes 136 rfl rfl rfl) (D_pure rfl) rfl ?_
                            refine XL_det (.yes 136 rfl rfl rfl) (D_pure rfl) rfl ?_
                            refine XL_callk (.yes 136 rfl rfl rfl) en_29 rfl (rholds y (Rd_own hy2 rfl) i true) (by repeat first | with_reducible exact .nil _ | with_reducible exact .here _ _ | with_reducible exact Take.self _ | with_reducible apply Take.cons | with_reducible apply Out.there | with_reducible apply Take.skip) rfl ?_
                            refine XL_det (.yes 136 rfl rfl rfl) (D_pure (v := .bool false) (bf (by rw [hx1, hy1]; rfl))) rfl ?_
                            refine XL_det .no (D_pure rfl) rfl ?_
                            refine XL_det .no (D_pure rfl) rfl ?_
                            refine XL_call (.yes 143 rfl rfl rfl) en_30 rfl (jwork b3 id now (now + T 1) c i x (by omega) (by omega)) (by repeat first | with_reducible exact .nil _ | with_reducible exact .here _ _ | with_reducible exact Take.self _ | with_reducible apply Take.cons | with_reducible apply Out.there | with_reducible apply Take.skip) rfl ?_
                            rintro _ _ ⟨rfl, rfl⟩
                            simp only [List.cons_append, List.nil_append]
                            rw [show min ((i : Int) + 1) c = (i : Int) + 1 from by omega]
                            refine XL_det (.yes 143 rfl rfl rfl) (D_pure rfl) rfl ?_
                            refine XL_det (.yes 143 rfl rfl rfl) (D_pure rfl) rfl ?_
                            refine XL_det (.yes 143 rfl rfl rfl) (D_sub rfl rfl (by omega) (by omega)) rfl ?_
                            refine XL_det (.yes 143 rfl rfl rfl) (D_pure rfl) rfl ?_
                            refine XL_det (.yes 143 rfl rfl rfl) (D_eqb (b := false) rfl rfl ub_4 (by rw [show decide ((i : Int) + 1 ≥ c) = ((i : Int) == c - 1) from by rw [Bool.eq_iff_iff]; simp only [decide_eq_true_eq, beq_iff_eq]; omega]; simp)) rfl ?_
                            refine XL_det .no (D_pure rfl) rfl ?_
                            refine XL_then ?_
                            refine X_cond_f rfl rfl ?_
                            refine X_skip ?_
                            refine thenX_normal ?_
                            refine X_seq ?_
                            refine X_seq ?_
                            refine X_region ?_
                            refine XL_det .no (D_ldso rfl (by repeat first | with_reducible exact .here _ _ | with_reducible apply Out.there) tk_67 rfl (by rfl)) rfl ?_
                            refine XL_callk .no en_28 rfl (jholds id now (now + T 1) c (i + 1) x (Rd_own hx2 rfl)) (by repeat first | with_reducible exact .nil _ | with_reducible exact .here _ _ | with_reducible exact Take.self _ | with_reducible apply Take.cons | with_reducible apply Out.there | with_reducible apply Take.skip) rfl ?_
                            refine XL_det .no (D_pure rfl) rfl ?_
                            refine XL_then ?_
                            refine X_cond rfl (fun h13 => ?_) (fun h13 => ?_)
                            · try simp only [decide_eq_true_eq, decide_eq_false_iff_not, Bool.not_eq_true', Bool.not_eq_false', beq_iff_eq, bne_iff_ne, beq_eq_false_iff_ne, bne_eq_false_iff_eq, Int.not_lt, Int.not_le, gt_iff_lt, ge_iff_le, ne_eq] at h13
                              refine X_region ?_
                              refine XL_det .no (D_pure rfl) rfl ?_
                              refine XL_then ?_
                              refine X_seq ?_
                              refine X_region ?_
                              refine XL_det .no (D_pure rfl) rfl ?_
                              refine XL_det .no (D_add rfl rfl (by omega) (by omega)) rfl ?_
                              refine XL_det .no (D_pure rfl) rfl ?_
                              refine XL_then ?_
                              refine X_seq ?_
                              refine X_region ?_
                              refine XL_det .no (D_pure rfl) rfl ?_
                              refine XL_det .no (D_pure rfl) rfl ?_
                              refine XL_then ?_
                              refine X_seq ?_
                              refine X_region ?_
                              refine XL_det .no (D_pure rfl) rfl ?_
                              refine XL_det .no (D_pure (v := .bool false) rfl) rfl ?_
                              refine XL_det .no (D_pure rfl) rfl ?_
                              refine XL_skip 159 rfl rfl rfl rfl rfl ?_
                              refine XL_skip 159 rfl rfl rfl rfl rfl ?_
                              refine XL_skip 159 rfl rfl rfl rfl rfl ?_
                              refine XL_skip 159 rfl rfl rfl rfl rfl ?_
                              refine XL_skip 159 rfl rfl rfl rfl rfl ?_
                              refine XL_skip 159 rfl rfl rfl rfl rfl ?_
                              refine XL_det .no (D_pure rfl) rfl ?_
                              refine XL_then ?_
                              refine X_cond_f rfl rfl ?_
                              refine X_skip ?_
                              refine inBlk_normal ?_
                              refine thenX_normal ?_
                              refine X_region ?_
                              refine XL_det .no (D_pure rfl) rfl ?_
                              refine XL_det .no (D_add rfl rfl (by omega) (by omega)) rfl ?_
                              refine XL_det .no (D_pure rfl) rfl ?_
                              refine XL_nil ?_
                              refine loopQ_next (i + 1, hh + 1, -1) ?_ ?_ ?_ ?_
                              · dsimp only; exact ⟨by omega, by split at hhh <;> omega, by split at hhh <;> omega, .inl (by decide)⟩
                              · dsimp only; omega
                              · refine ⟨?_, ?_, ?_, ?_, ?_, ?_, ?_, trivial⟩ <;> rfl
                              · dsimp only; exact ⟨_, (by repeat first | with_reducible exact .nil _ | with_reducible exact .here _ _ | exact .here _ _ | with_reducible exact Take.self _ | with_reducible apply Take.cons | with_reducible apply Out.there | with_reducible apply Take.skip)⟩
                            · try simp only [decide_eq_true_eq, decide_eq_false_iff_not, Bool.not_eq_true', Bool.not_eq_false', beq_iff_eq, bne_iff_ne, beq_eq_false_iff_ne, bne_eq_false_iff_eq, Int.not_lt, Int.not_le, gt_iff_lt, ge_iff_le, ne_eq] at h13
                              obtain ⟨hst, j, hj, hj8, hjT⟩ := held_step (held' := hh + 1) (secs_ok hT l.l 0 0) hho (by rw [hhh, hx1]) (by rw [← hx1]; exact h13)
                              refine X_skip ?_
                              refine thenX_normal ?_
                              refine X_seq ?_
                              refine X_region ?_
                              refine XL_det .no (D_pure rfl) rfl ?_
                              refine XL_det .no (D_add rfl rfl (by omega) (by omega)) rfl ?_
                              refine XL_det .no (D_pure rfl) rfl ?_
                              refine XL_then ?_
                              refine X_seq ?_
                              refine X_region ?_
                              refine XL_det .no (D_pure rfl) rfl ?_
                              refine XL_det .no (D_pure rfl) rfl ?_
                              refine XL_then ?_
                              refine X_seq ?_
                              refine X_region ?_
                              refine XL_det .no (D_pure rfl) rfl ?_
                              refine XL_det .no (D_pure (v := .bool true) (bg (by rw [hx1, hj]; omega))) rfl ?_
                              refine XL_det .no (D_pure rfl) rfl ?_
                              refine XL_det (.yes 159 rfl rfl rfl) (D_pure rfl) rfl ?_
                              refine XL_det (.yes 159 rfl rfl rfl) (D_pure rfl) rfl ?_
                              refine XL_det (.yes 159 rfl rfl rfl) (D_fld rfl fld_58_3 (o' := 3) rfl) rfl ?_
                              refine XL_det (.yes 159 rfl rfl rfl) (D_idxA rfl rfl arr_56 (by rw [hx1]; exact hj) (by omega) rfl) rfl ?_
                              refine XL_det (.yes 159 rfl rfl rfl) (D_ldo rfl (by repeat first | with_reducible exact .here _ _ | with_reducible apply Out.there) tk_3 (encT_get (by omega))) rfl ?_
                              refine XL_det (.yes 159 rfl rfl rfl) (D_pure (v := .bool false) (bl (by omega))) rfl ?_
                              refine XL_det .no (D_pure rfl) rfl ?_
                              refine XL_then ?_
                              refine X_cond_f rfl rfl ?_
                              refine X_skip ?_
                              refine inBlk_normal ?_
                              refine thenX_normal ?_
                              refine X_region ?_
                              refine XL_det .no (D_pure rfl) rfl ?_
                              refine XL_det .no (D_add rfl rfl (by omega) (by omega)) rfl ?_
                              refine XL_det .no (D_pure rfl) rfl ?_
                              refine XL_nil ?_
                              refine loopQ_next (i + 1, hh + 1, (resOf (x.l.find? (takesP i)))) ?_ ?_ ?_ ?_
                              · dsimp only; exact ⟨by omega, by split at hhh <;> omega, by split at hhh <;> omega, by rw [hx1]; exact hst⟩
                              · dsimp only; omega
                              · refine ⟨?_, ?_, ?_, ?_, ?_, ?_, ?_, trivial⟩ <;> rfl
                              · dsimp only; exact ⟨_, (by repeat first | with_reducible exact .nil _ | with_reducible exact .here _ _ | exact .here _ _ | with_reducible exact Take.self _ | with_reducible apply Take.cons | with_reducible apply Out.there | with_reducible apply Take.skip)⟩
                        · try simp only [decide_eq_true_eq, decide_eq_false_iff_not, Bool.not_eq_true', Bool.not_eq_false', beq_iff_eq, bne_iff_ne, beq_eq_false_iff_ne, bne_eq_false_iff_eq, Int.not_lt, Int.not_le, gt_iff_lt, ge_iff_le, ne_eq] at h11
                          refine X_exit ?_
                          refine thenX_exit ?_
                          refine loopQ_exit ?_
                          refine inBlk_here ?_
                          refine thenX_normal ?_
                          refine X_seq ?_
                          refine X_region ?_
                          refine XL_det .no (D_ldso rfl (by repeat first | with_reducible exact .here _ _ | with_reducible apply Out.there) tk_67 rfl (by rfl)) rfl ?_
                          refine XL_callv .no en_27 rfl (say true (jover id now (now + T 1) c i x) (decide_eq_true (by omega))) rfl ?_
                          refine XL_det .no (D_pure rfl) rfl ?_
                          refine XL_det (.yes 169 rfl rfl rfl) (D_fld rfl fld_67_4 (o' := 4) rfl) rfl ?_
                          refine XL_det (.yes 169 rfl rfl rfl) (D_ldo rfl (by repeat first | with_reducible exact .here _ _ | with_reducible apply Out.there) tk_3 (by rfl)) rfl ?_
                          refine XL_det (.yes 169 rfl rfl rfl) (D_pure rfl) rfl ?_
                          refine XL_det (.yes 169 rfl rfl rfl) (D_pure (v := .bool true) (bt (by omega))) rfl ?_
                          refine XL_det .no (D_pure rfl) rfl ?_
                          refine XL_det .no (D_pure rfl) rfl ?_
                          refine XL_det (.yes 175 rfl rfl rfl) (D_ldso rfl (by repeat first | with_reducible exact .here _ _ | with_reducible apply Out.there) tk_67 rfl (by rfl)) rfl ?_
                          refine XL_callk (.yes 175 rfl rfl rfl) en_28 rfl (jholds id now (now + T 1) c i x (Rd_own hx2 rfl)) (by repeat first | with_reducible exact .nil _ | with_reducible exact .here _ _ | with_reducible exact Take.self _ | with_reducible apply Take.cons | with_reducible apply Out.there | with_reducible apply Take.skip) rfl ?_
                          refine XL_det (.yes 175 rfl rfl rfl) (D_pure (v := .bool true) (bt (by rw [hx1]; exact holds_end (secs_ok hT l.l 0 0) (by omega)))) rfl ?_
                          refine XL_det .no (D_pure rfl) rfl ?_
                          refine XL_det .no (D_pure rfl) rfl ?_
                          refine XL_det (.yes 180 rfl rfl rfl) (D_ldso rfl (by repeat first | with_reducible exact .here _ _ | with_reducible apply Out.there) tk_67 rfl (by rfl)) rfl ?_
                          refine XL_det (.yes 180 rfl rfl rfl) (D_fld rfl fld_67_2 (o' := 2) rfl) rfl ?_
                          refine XL_det (.yes 180 rfl rfl rfl) (D_ldo rfl (by repeat first | with_reducible exact .here _ _ | with_reducible apply Out.there) tk_3 (by rfl)) rfl ?_
                          refine XL_det (.yes 180 rfl rfl rfl) (D_add rfl rfl (by omega) (by omega)) rfl ?_
                          refine XL_callv (.yes 180 rfl rfl rfl) en_31 rfl (say true (jlate id now (now + T 1) c i x (now + T 1 + 1)) (decide_eq_true (by omega))) rfl ?_
                          refine XL_det .no (D_pure rfl) rfl ?_
                          refine XL_det .no (D_pure rfl) rfl ?_
                          refine XL_det (.yes 187 rfl rfl rfl) (D_ldso rfl (by repeat first | with_reducible exact .here _ _ | with_reducible apply Out.there) tk_67 rfl (by rfl)) rfl ?_
                          refine XL_det (.yes 187 rfl rfl rfl) (D_fld rfl fld_67_2 (o' := 2) rfl) rfl ?_
                          refine XL_det (.yes 187 rfl rfl rfl) (D_ldo rfl (by repeat first | with_reducible exact .here _ _ | with_reducible apply Out.there) tk_3 (by rfl)) rfl ?_
                          refine XL_callv (.yes 187 rfl rfl rfl) en_31 rfl (say false (jlate id now (now + T 1) c i x (now + T 1)) (decide_eq_false (by omega))) rfl ?_
                          refine XL_det (.yes 187 rfl rfl rfl) (D_pure rfl) rfl ?_
                          refine XL_det .no (D_pure rfl) rfl ?_
                          refine XL_det .no (D_pure rfl) rfl ?_
                          refine XL_callv (.yes 194 rfl rfl rfl) en_24 rfl (alive25) rfl ?_
                          refine XL_det .no (D_pure rfl) rfl ?_
                          refine XL_det .no (D_pure rfl) rfl ?_
                          refine XL_then ?_
                          refine X_ret ?_
                          refine ret_ok (.nil _) (res_tmp rfl rfl) ?_
                          exact ⟨_, ⟨rfl, rfl⟩, _, (by repeat first | with_reducible exact .nil _ | with_reducible exact .here _ _ | with_reducible exact Take.self _ | with_reducible apply Take.cons | with_reducible apply Out.there | with_reducible apply Take.skip)⟩

end Go.Proofs.Ytbejafkklbmaoaa
end

section
namespace Go.Proofs.Ytbejafkklbmaoaa
open Go Go.Sl Go.ChangeShapes Go.WideShapes Go.ChangeAt Go.RowKit
set_option linter.unusedVariables false
theorem own : ownKnob Try.prog.godebug = none := by kernel_rfl
theorem laidOut : laidOutB Try.prog = true := by kernel_rfl


theorem ui_int : Try.prog.underlying 3 = some (.int .i64) := by kernel_rfl
theorem sl_secs : slcOf Try.prog 59 = some (78, 3) := by kernel_rfl
theorem sz_sec : (Try.prog.info? 78).map (·.size) = some 3 := by kernel_rfl
theorem sz_task : (Try.prog.info? 58).map (·.size) = some 11 := by kernel_rfl
theorem ag_task : isAggB Try.prog 58 = true := by kernel_rfl
theorem shp_ask : shp Try.prog 65 = some [3, 3, 3, 59] := by kernel_rfl
theorem openSecs {W : World} {n : Nat} {H : Type} {enc : TypeId × Value → H} {cs : List Value} {x : DataW H × List MemPlace} (hx : DataW.trod enc Try.prog W 0 (fun _ => true) true n 78 cs = some x) : ∃ s : Sec, cs = encS s ∧ True := by
  obtain ⟨e, h, _⟩ := flat_dec eqk_78 sz_sec hx
  exact ⟨(e 0, e 1, e 2), h, trivial⟩
theorem openAsk {W : World} {v : Value} (h : ArgOk Try.prog W 65 v) : ∃ (id now co : Int) (l : Arr Sec), v = .agg #[.int .i64 id, .int .i64 now, .int .i64 co, .slice l.oad l.l.length l.c] ∧ Rd (old (B := W.heap.size) W) l.ad (l.l.flatMap encS) := by
  obtain ⟨H, enc, cs, rfl, p0, q0, rfl, ⟨n0, x0, h0⟩, p1, q1, rfl, ⟨n1, x1, h1⟩, p2, q2, rfl, ⟨n2, x2, h2⟩, p3, q3, rfl, ⟨n3, x3, h3⟩, rfl⟩ := arg_struct shp_ask h
  obtain ⟨id, rfl, _, _⟩ := DataW.trod_int ui_int h0
  obtain ⟨now, rfl, _, _⟩ := DataW.trod_int ui_int h1
  obtain ⟨co, rfl, _, _⟩ := DataW.trod_int ui_int h2
  obtain ⟨l, rfl, _, hl⟩ := Arr.of_trod (encA := encS) (ok := fun _ => True) sl_secs (by decide) h3 (fun n cs x hx => openSecs hx)
  exact ⟨id, now, co, l, rfl, hl⟩

/-- The walk, at the arguments as the row reads them. -/
theorem walkJobWorks (W : World) (args : Array Value) (h : ArgsOk Try.prog W Try.f7.params.toList args.toList) : Calls Try.prog 7 args W fun e w' => e = .returned (.bool true) ∧ Go.RowKit.Below W.heap.size W w' := by
  rw [show Try.f7.params.toList = [58, 65] from by kernel_rfl] at h
  obtain ⟨args⟩ := args
  match args, h with
  | [v0, v1], h =>
    obtain ⟨a0, a1, _⟩ := h
    obtain ⟨T, rfl, _⟩ := arg_flat eqk_58 sz_task ag_task a0
    obtain ⟨id, now, co, l, rfl, hl⟩ := openAsk a1
    exact calls_of (old_self W) ((jobWorks T id now co l hl).mono fun _ _ h => h.1)

set_option maxRecDepth 100000 in
theorem liftedJobWorks (os : Os) (started : os.Started) (H : Type) (enc : TypeId × Value → H) :
    ReturnsInHanded {} Try.checked os 7 .any (Rows.jobWorksSpec.pre6 enc Try.prog Try.f7 Rows.jobWorksRow.domain false) (Rows.jobWorksSpec.post enc Try.prog Try.f7 false true false false) :=
  handed (C := Try.checked) (tb := 4) own started (by kernel_rfl) Try.func7 laidOut (by kernel_rfl) rfl
    (fun ds h => by
      have h : ds.length = 2 := h
      match ds, h with
      | [_, _], _ => exact ⟨rfl, rfl, rfl⟩) (by kernel_rfl) (by kernel_rfl)
    (ChangeSpec.witness6 (enc := enc) (C := Try.checked) false ⟨#[], #[.agg #[.int .i64 0, .int .i64 0, .int .i64 0, .int .i64 0, .int .i64 0, .int .i64 0, .int .i64 0, .int .i64 0, .int .i64 0, .int .i64 0, .int .i64 0], .agg #[.int .i64 0, .int .i64 0, .int .i64 0, .slice none 0 0]], []⟩ 8 (by kernel_rfl) (by kernel_rfl) (by kernel_rfl) (by kernel_rfl))
    (fun W args h => walkJobWorks W args h)

theorem overJobWorks : Rows.jobWorksRow.holds Try.pinned (OpenSpec.ofChange Rows.jobWorksSpec) :=
  OpenClaim.holds_of_wide 7 Try.f7 rfl rfl rfl rfl rfl rfl rfl ⟨rfl, rfl, rfl, rfl, rfl⟩ rfl rfl rfl rfl rfl (by kernel_rfl) Try.func7 (by kernel_rfl)
    (of_decide_eq_true (by kernel_rfl)) (by unfold Func.isWrapper; first | (rw [if_pos (by decide +kernel)]; kernel_rfl) | (rw [if_neg (by decide +kernel)]; exact ⟨rfl, rfl⟩))
    (fun os started H enc _ => liftedJobWorks os started H enc)

/-- The statement. -/
theorem provedJobWorks : Rows.JobWorksSaid := overJobWorks

#print axioms provedJobWorks
end Go.Proofs.Ytbejafkklbmaoaa
end
