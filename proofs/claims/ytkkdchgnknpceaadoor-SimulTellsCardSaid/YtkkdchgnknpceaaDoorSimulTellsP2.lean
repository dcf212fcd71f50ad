/- SimulTells: a part of the functions that it reaches, walked one by one. Walks written by a program of mine. -/
import Derived.Test.YtkkdchgnknpceaaDoorSimulTellsP1
import Derived.KernelRfl
import Derived.Test.YtkkdchgnknpceaaDoorProg
import Derived.Test.YtkkdchgnknpceaaDoorRows
import Derived.Test.YtkkdchgnknpceaaDoorTie
import Derived.Test.YtkkdchgnknpceaaDoorCards
import Derived.SevenTiedAt
import Derived.LaidMore
section
namespace Go.Proofs.YtkkdchgnknpceaaDoor
open Go Go.Sl
set_option linter.unusedVariables false
set_option linter.unusedSimpArgs false
set_option maxRecDepth 4000
variable {B : Nat} {K : Asrt B}
theorem bld_45 : bldOf Tryd.prog 45 = some ([.int .i64 0, .int .i64 0, .int .i64 0, .int .i64 0, .int .i64 0, .slice none 0 0], [(0, 1), (1, 1), (2, 1), (3, 1), (4, 1), (5, 1)]) := by kernel_rfl
theorem en_50 : Go.Proofs.Enters Tryd.prog 50 := Go.Proofs.enters_of Tryd.func50 (by kernel_rfl) rfl
theorem en_52 : Go.Proofs.Enters Tryd.prog 52 := Go.Proofs.enters_of Tryd.func52 (by kernel_rfl) rfl
theorem en_82 : Go.Proofs.Enters Tryd.prog 82 := Go.Proofs.enters_of Tryd.func82 (by kernel_rfl) rfl
theorem en_83 : Go.Proofs.Enters Tryd.prog 83 := Go.Proofs.enters_of Tryd.func83 (by kernel_rfl) rfl
theorem en_86 : Go.Proofs.Enters Tryd.prog 86 := Go.Proofs.enters_of Tryd.func86 (by kernel_rfl) rfl
theorem eqg_123 : Tryd.prog.eqGuardType Tryd.prog.depth 123 = false := by kernel_rfl
theorem eqk_123 : eqKinds Tryd.prog 12 123 = some [some .i64, some .i64, some .i64] := by kernel_rfl
theorem fld_123_0 : fldOff Tryd.prog 123 0 = some 0 := by kernel_rfl
theorem fld_123_1 : fldOff Tryd.prog 123 1 = some 1 := by kernel_rfl
theorem fld_123_2 : fldOff Tryd.prog 123 2 = some 2 := by kernel_rfl
theorem fld_45_2 : fldOff Tryd.prog 45 2 = some 2 := by kernel_rfl
theorem fld_45_3 : fldOff Tryd.prog 45 3 = some 3 := by kernel_rfl
theorem fld_45_4 : fldOff Tryd.prog 45 4 = some 4 := by kernel_rfl
theorem fld_45_5 : fldOff Tryd.prog 45 5 = some 5 := by kernel_rfl
theorem slc_39 : slcOf Tryd.prog 39 = some (123, 3) := by kernel_rfl
theorem slt_39 : slT Tryd.prog 39 = some (123, 3, 24, [.int .i64 0, .int .i64 0, .int .i64 0]) := by kernel_rfl
theorem tk_123 : tyK Tryd.prog 123 = some (true, 3) := by kernel_rfl
theorem tk_39 : tyK Tryd.prog 39 = some (false, 1) := by kernel_rfl
theorem tk_45 : tyK Tryd.prog 45 = some (true, 6) := by kernel_rfl
theorem uf_120 : isFuncT Tryd.prog 120 = true := by kernel_rfl
theorem zero_123 : zeroOf Tryd.prog 123 = some [.int .i64 0, .int .i64 0, .int .i64 0] := by kernel_rfl
theorem zero_45 : zeroOf Tryd.prog 45 = some [.int .i64 0, .int .i64 0, .int .i64 0, .int .i64 0, .int .i64 0, .slice none 0 0] := by kernel_rfl
theorem zk_123 : (match Tryd.prog.underlying 123 with | some (.struct _) => (bldOf Tryd.prog 123).isSome | some (.array _ e) => (Tryd.prog.info? e).isSome | _ => false) = true := by kernel_rfl

abbrev Sec := Int × Int × Int
abbrev encS (s : Sec) : List Value := [.int .i64 s.1, .int .i64 s.2.1, .int .i64 s.2.2]
abbrev secV (s : Sec) : Value := .agg #[.int .i64 s.1, .int .i64 s.2.1, .int .i64 s.2.2]
abbrev tV (e : Nat → Int) : Value := .agg #[.int .i64 (e 0), .int .i64 (e 1), .int .i64 (e 2), .int .i64 (e 3), .int .i64 (e 4), .int .i64 (e 5), .int .i64 (e 6), .int .i64 (e 7), .int .i64 (e 8), .int .i64 (e 9), .int .i64 (e 10)]
def cutS (T : Nat → Int) (cost from_ : Int) (s : Sec) : Option Sec :=
  if s.1 < 0 ∨ s.1 ≥ 8 ∨ T (3 + s.1.toNat) = 0 ∨ s.2.1 < from_ ∨ s.2.1 ≥ cost ∨ s.2.2 ≤ s.2.1 then none
  else some (s.1, s.2.1, if min s.2.2 cost - s.2.1 > T (3 + s.1.toNat) then s.2.1 + T (3 + s.1.toNat) else min s.2.2 cost)
abbrev cutV (o : Option Sec) : Value := .tuple #[secV (o.getD (0, 0, 0)), .bool o.isSome]
theorem cutS_o {T : Nat → Int} {cost from_ : Int} {s : Sec} (h : s.1 < 0 ∨ s.1 ≥ 8) : cutS T cost from_ s = none := by unfold cutS; rw [if_pos (by omega)]
theorem cutS_n {T : Nat → Int} {cost from_ : Int} {s : Sec} {j : Nat} (hj : s.1 = (j : Int)) (h : T (3 + j) = 0 ∨ s.2.1 < from_ ∨ s.2.1 ≥ cost ∨ s.2.2 ≤ s.2.1) : cutS T cost from_ s = none := by
  unfold cutS; rw [hj, Int.toNat_natCast, if_pos (by omega)]
theorem cutS_s {T : Nat → Int} {cost from_ : Int} {s : Sec} {j : Nat} (hj : s.1 = (j : Int)) (h8 : j < 8) (h : ¬ (T (3 + j) = 0 ∨ s.2.1 < from_ ∨ s.2.1 ≥ cost ∨ s.2.2 ≤ s.2.1)) :
    cutS T cost from_ s = some (s.1, s.2.1, if min s.2.2 cost - s.2.1 > T (3 + j) then s.2.1 + T (3 + j) else min s.2.2 cost) := by
  unfold cutS; rw [if_neg (by rw [hj, Int.toNat_natCast]; omega), hj, Int.toNat_natCast]
def rightB (T : Nat → Int) : Bool := (List.range 8).all fun j => decide (0 ≤ T (3 + j))
theorem rightB_t {T : Nat → Int} (h : ∀ j, j < 8 → 0 ≤ T (3 + j)) : rightB T = true := List.all_eq_true.2 fun j hj => by simpa using h j (List.mem_range.1 hj)
theorem rightB_f {T : Nat → Int} {j : Nat} (hj : j < 8) (h : T (3 + j) < 0) : rightB T = false := by
  cases hb : rightB T with
  | false => rfl
  | true => have := List.all_eq_true.1 hb j (List.mem_range.2 hj); simp at this; omega
theorem rightB_all {T : Nat → Int} (h : rightB T = true) : ∀ j, j < 8 → 0 ≤ T (3 + j) := fun j hj => by have := List.all_eq_true.1 h j (List.mem_range.2 hj); simpa using this
/-- The sections that fit, cut. -/
def secs (T : Nat → Int) (cost : Int) : Int → Nat → List Sec → List Sec
  | _, _, [] => []
  | from_, many, s :: l => if many = 8 then [] else match cutS T cost from_ s with
    | none => secs T cost from_ many l
    | some c => c :: secs T cost c.2.2 (many + 1) l
theorem secs_8 {T : Nat → Int} {cost from_ : Int} : ∀ (l : List Sec), secs T cost from_ 8 l = []
  | [] => rfl
  | _ :: _ => rfl
theorem secs_n {T : Nat → Int} {cost from_ : Int} {many : Nat} {l : List Sec} {i : Nat} {s : Sec} (h : l[i]? = some s) (hm : many ≠ 8) (hc : cutS T cost from_ s = none) : secs T cost from_ many (l.drop i) = secs T cost from_ many (l.drop (i + 1)) := by
  have hi := (List.getElem?_eq_some_iff.1 h).1
  rw [List.drop_eq_getElem_cons hi, show l[i] = s from by rw [List.getElem?_eq_getElem hi] at h; exact Option.some.inj h]
  rw [secs, if_neg hm, hc]
theorem secs_s {T : Nat → Int} {cost from_ : Int} {many : Nat} {l : List Sec} {i : Nat} {s c : Sec} (h : l[i]? = some s) (hm : many ≠ 8) (hc : cutS T cost from_ s = some c) : secs T cost from_ many (l.drop i) = c :: secs T cost c.2.2 (many + 1) (l.drop (i + 1)) := by
  have hi := (List.getElem?_eq_some_iff.1 h).1
  rw [List.drop_eq_getElem_cons hi, show l[i] = s from by rw [List.getElem?_eq_getElem hi] at h; exact Option.some.inj h]
  rw [secs, if_neg hm, hc]
theorem cut_to {T : Nat → Int} {cost from_ : Int} {s c : Sec} (hT : ∀ j, j < 8 → 0 ≤ T (3 + j)) (h : cutS T cost from_ s = some c) (hf : 0 ≤ from_) : 0 ≤ c.2.2 ∧ c.2.2 ≤ cost := by
  unfold cutS at h
  split at h
  · cases h
  · simp at h; subst h
    simp only [not_or] at *
    have := hT s.1.toNat (by omega)
    split <;> omega

theorem jcut (T : Nat → Int) (cost from_ : Int) (s : Sec) (hT : ∀ j, j < 8 → 0 ≤ T (3 + j)) (hf : 0 ≤ from_) (hc : cost ≤ 9223372036854775807) : Ctr Tryd.prog B 83 [tV T, .int .i64 cost, .int .i64 from_, secV s] [] (fun v S => v = cutV (cutS T cost from_ s) ∧ S = []) := by
  refine Ctr_of_X (N := 72) Tryd.func83 rfl (by simp) rfl ?_
  intro w0 D0
  refine X_seq ?_
  refine X_region ?_
  refine XL_box .no rfl rfl rfl (fun b1 => ?_)
  refine XL_box .no rfl rfl rfl (fun b2 => ?_)
  refine XL_alloc .no zero_123 rfl (fun b3 => ?_)
  refine XL_det .no (D_pure rfl) rfl ?_
  refine XL_then ?_
  refine X_seq ?_
  refine X_seq ?_
  refine X_region ?_
  refine XL_det .no (D_fld rfl fld_123_0 (o' := 0) rfl) rfl ?_
  refine XL_det .no (D_ldo rfl (by with_reducible repeat first | exact .here _ _ | apply Out.there | apply Out.app) tk_3 (by rfl)) rfl ?_
  refine XL_det .no (D_pure rfl) rfl ?_
  refine XL_det .no (D_pure rfl) rfl ?_
  refine XL_split (t := 13) rfl (fun h1 => ?_) (fun h1 => ?_)
  · try simp only [decide_eq_true_eq, decide_eq_false_iff_not, Bool.not_eq_true', Bool.not_eq_false', beq_iff_eq, bne_iff_ne, beq_eq_false_iff_ne, bne_eq_false_iff_eq, Int.not_lt, Int.not_le, gt_iff_lt, ge_iff_le, ne_eq] at h1
    refine XL_skip 13 rfl rfl rfl rfl rfl ?_
    refine XL_skip 13 rfl rfl rfl rfl rfl ?_
    refine XL_skip 13 rfl rfl rfl rfl rfl ?_
    refine XL_det .no (D_pure rfl) rfl ?_
    refine XL_det .no (D_pure rfl) rfl ?_
    refine XL_skip 18 rfl rfl rfl rfl rfl ?_
    refine XL_skip 18 rfl rfl rfl rfl rfl ?_
    refine XL_skip 18 rfl rfl rfl rfl rfl ?_
    refine XL_skip 18 rfl rfl rfl rfl rfl ?_
    refine XL_skip 18 rfl rfl rfl rfl rfl ?_
    refine XL_skip 18 rfl rfl rfl rfl rfl ?_
    refine XL_det .no (D_pure rfl) rfl ?_
    refine XL_det .no (D_pure rfl) rfl ?_
    refine XL_skip 26 rfl rfl rfl rfl rfl ?_
    refine XL_skip 26 rfl rfl rfl rfl rfl ?_
    refine XL_skip 26 rfl rfl rfl rfl rfl ?_
    refine XL_skip 26 rfl rfl rfl rfl rfl ?_
    refine XL_det .no (D_pure rfl) rfl ?_
    refine XL_det .no (D_pure rfl) rfl ?_
    refine XL_skip 32 rfl rfl rfl rfl rfl ?_
    refine XL_skip 32 rfl rfl rfl rfl rfl ?_
    refine XL_skip 32 rfl rfl rfl rfl rfl ?_
    refine XL_skip 32 rfl rfl rfl rfl rfl ?_
    refine XL_det .no (D_pure rfl) rfl ?_
    refine XL_det .no (D_pure rfl) rfl ?_
    refine XL_skip 38 rfl rfl rfl rfl rfl ?_
    refine XL_skip 38 rfl rfl rfl rfl rfl ?_
    refine XL_skip 38 rfl rfl rfl rfl rfl ?_
    refine XL_skip 38 rfl rfl rfl rfl rfl ?_
    refine XL_skip 38 rfl rfl rfl rfl rfl ?_
    refine XL_det .no (D_pure rfl) rfl ?_
    refine XL_then ?_
    refine X_cond_t rfl rfl ?_
    refine X_seq ?_
    refine X_region ?_
    refine XL_det .no (D_zero zero_123 zk_123) rfl ?_
    refine XL_efd .no (F_stw rfl rfl rfl (by with_reducible repeat first | exact .here _ _ | apply Out.there | apply Out.app) tk_123 rfl rfl) ?_
    refine XL_det .no (D_pure rfl) rfl ?_
    refine XL_then ?_
    refine X_ret ?_
    refine thenX_ret ?_
    refine ret_ok (.nil _) (res_celltmp rfl rfl (by with_reducible repeat first | exact .here _ _ | apply Out.there | apply Out.app) tk_123 (by rfl) rfl) ?_
    exact ⟨_, ⟨by rw [cutS_o (by omega)]; rfl, rfl⟩, _, (by with_reducible repeat first | exact .nil _ | exact .here _ _ | exact Take.self _ | apply Take.cons | apply Out.there | apply Take.skip | exact Take.pre _ _ | apply Out.app)⟩
  · try simp only [decide_eq_true_eq, decide_eq_false_iff_not, Bool.not_eq_true', Bool.not_eq_false', beq_iff_eq, bne_iff_ne, beq_eq_false_iff_ne, bne_eq_false_iff_eq, Int.not_lt, Int.not_le, gt_iff_lt, ge_iff_le, ne_eq] at h1
    refine XL_det (.yes 13 rfl rfl rfl) (D_fld rfl fld_123_0 (o' := 0) rfl) rfl ?_
    refine XL_det (.yes 13 rfl rfl rfl) (D_ldo rfl (by with_reducible repeat first | exact .here _ _ | apply Out.there | apply Out.app) tk_3 (by rfl)) rfl ?_
    refine XL_det (.yes 13 rfl rfl rfl) (D_pure rfl) rfl ?_
    refine XL_det .no (D_pure rfl) rfl ?_
    refine XL_det .no (D_pure rfl) rfl ?_
    refine XL_split (t := 18) rfl (fun h2 => ?_) (fun h2 => ?_)
    · try simp only [decide_eq_true_eq, decide_eq_false_iff_not, Bool.not_eq_true', Bool.not_eq_false', beq_iff_eq, bne_iff_ne, beq_eq_false_iff_ne, bne_eq_false_iff_eq, Int.not_lt, Int.not_le, gt_iff_lt, ge_iff_le, ne_eq] at h2
      refine XL_skip 18 rfl rfl rfl rfl rfl ?_
      refine XL_skip 18 rfl rfl rfl rfl rfl ?_
      refine XL_skip 18 rfl rfl rfl rfl rfl ?_
      refine XL_skip 18 rfl rfl rfl rfl rfl ?_
      refine XL_skip 18 rfl rfl rfl rfl rfl ?_
      refine XL_skip 18 rfl rfl rfl rfl rfl ?_
      refine XL_det .no (D_pure rfl) rfl ?_
      refine XL_det .no (D_pure rfl) rfl ?_
      refine XL_skip 26 rfl rfl rfl rfl rfl ?_
      refine XL_skip 26 rfl rfl rfl rfl rfl ?_
      refine XL_skip 26 rfl rfl rfl rfl rfl ?_
      refine XL_skip 26 rfl rfl rfl rfl rfl ?_
      refine XL_det .no (D_pure rfl) rfl ?_
      refine XL_det .no (D_pure rfl) rfl ?_
      refine XL_skip 32 rfl rfl rfl rfl rfl ?_
      refine XL_skip 32 rfl rfl rfl rfl rfl ?_
      refine XL_skip 32 rfl rfl rfl rfl rfl ?_
      refine XL_skip 32 rfl rfl rfl rfl rfl ?_
      refine XL_det .no (D_pure rfl) rfl ?_
      refine XL_det .no (D_pure rfl) rfl ?_
      refine XL_skip 38 rfl rfl rfl rfl rfl ?_
      refine XL_skip 38 rfl rfl rfl rfl rfl ?_
      refine XL_skip 38 rfl rfl rfl rfl rfl ?_
      refine XL_skip 38 rfl rfl rfl rfl rfl ?_
      refine XL_skip 38 rfl rfl rfl rfl rfl ?_
      refine XL_det .no (D_pure rfl) rfl ?_
      refine XL_then ?_
      refine X_cond_t rfl rfl ?_
      refine X_seq ?_
      refine X_region ?_
      refine XL_det .no (D_zero zero_123 zk_123) rfl ?_
      refine XL_efd .no (F_stw rfl rfl rfl (by with_reducible repeat first | exact .here _ _ | apply Out.there | apply Out.app) tk_123 rfl rfl) ?_
      refine XL_det .no (D_pure rfl) rfl ?_
      refine XL_then ?_
      refine X_ret ?_
      refine thenX_ret ?_
      refine ret_ok (.nil _) (res_celltmp rfl rfl (by with_reducible repeat first | exact .here _ _ | apply Out.there | apply Out.app) tk_123 (by rfl) rfl) ?_
      exact ⟨_, ⟨by rw [cutS_o (by omega)]; rfl, rfl⟩, _, (by with_reducible repeat first | exact .nil _ | exact .here _ _ | exact Take.self _ | apply Take.cons | apply Out.there | apply Take.skip | exact Take.pre _ _ | apply Out.app)⟩
    · try simp only [decide_eq_true_eq, decide_eq_false_iff_not, Bool.not_eq_true', Bool.not_eq_false', beq_iff_eq, bne_iff_ne, beq_eq_false_iff_ne, bne_eq_false_iff_eq, Int.not_lt, Int.not_le, gt_iff_lt, ge_iff_le, ne_eq] at h2
      obtain ⟨j, hj⟩ := Int.eq_ofNat_of_zero_le (a := s.1) (by omega)
      have hT := hT j (by omega)
      refine XL_det (.yes 18 rfl rfl rfl) (D_fld rfl fld_123_0 (o' := 0) rfl) rfl ?_
      refine XL_det (.yes 18 rfl rfl rfl) (D_ldo rfl (by with_reducible repeat first | exact .here _ _ | apply Out.there | apply Out.app) tk_3 (by rfl)) rfl ?_
      refine XL_det (.yes 18 rfl rfl rfl) (D_fld rfl fld_48_3 (o' := 3) rfl) rfl ?_
      refine XL_det (.yes 18 rfl rfl rfl) (D_idxA rfl rfl arr_33 hj (by omega) rfl) rfl ?_
      refine XL_det (.yes 18 rfl rfl rfl) (D_ldo rfl (by with_reducible repeat first | exact .here _ _ | apply Out.there | apply Out.app) tk_3 (encT_get (by omega))) rfl ?_
      refine XL_det (.yes 18 rfl rfl rfl) (D_pure rfl) rfl ?_
      refine XL_det .no (D_pure rfl) rfl ?_
      refine XL_det .no (D_pure rfl) rfl ?_
      refine XL_split (t := 26) rfl (fun h3 => ?_) (fun h3 => ?_)
      · try simp only [decide_eq_true_eq, decide_eq_false_iff_not, Bool.not_eq_true', Bool.not_eq_false', beq_iff_eq, bne_iff_ne, beq_eq_false_iff_ne, bne_eq_false_iff_eq, Int.not_lt, Int.not_le, gt_iff_lt, ge_iff_le, ne_eq] at h3
        refine XL_skip 26 rfl rfl rfl rfl rfl ?_
        refine XL_skip 26 rfl rfl rfl rfl rfl ?_
        refine XL_skip 26 rfl rfl rfl rfl rfl ?_
        refine XL_skip 26 rfl rfl rfl rfl rfl ?_
        refine XL_det .no (D_pure rfl) rfl ?_
        refine XL_det .no (D_pure rfl) rfl ?_
        refine XL_skip 32 rfl rfl rfl rfl rfl ?_
        refine XL_skip 32 rfl rfl rfl rfl rfl ?_
        refine XL_skip 32 rfl rfl rfl rfl rfl ?_
        refine XL_skip 32 rfl rfl rfl rfl rfl ?_
        refine XL_det .no (D_pure rfl) rfl ?_
        refine XL_det .no (D_pure rfl) rfl ?_
        refine XL_skip 38 rfl rfl rfl rfl rfl ?_
        refine XL_skip 38 rfl rfl rfl rfl rfl ?_
        refine XL_skip 38 rfl rfl rfl rfl rfl ?_
        refine XL_skip 38 rfl rfl rfl rfl rfl ?_
        refine XL_skip 38 rfl rfl rfl rfl rfl ?_
        refine XL_det .no (D_pure rfl) rfl ?_
        refine XL_then ?_
        refine X_cond_t rfl rfl ?_
        refine X_seq ?_
        refine X_region ?_
        refine XL_det .no (D_zero zero_123 zk_123) rfl ?_
        refine XL_efd .no (F_stw rfl rfl rfl (by with_reducible repeat first | exact .here _ _ | apply Out.there | apply Out.app) tk_123 rfl rfl) ?_
        refine XL_det .no (D_pure rfl) rfl ?_
        refine XL_then ?_
        refine X_ret ?_
        refine thenX_ret ?_
        refine ret_ok (.nil _) (res_celltmp rfl rfl (by with_reducible repeat first | exact .here _ _ | apply Out.there | apply Out.app) tk_123 (by rfl) rfl) ?_
        exact ⟨_, ⟨by rw [cutS_n hj (by omega)]; rfl, rfl⟩, _, (by with_reducible repeat first | exact .nil _ | exact .here _ _ | exact Take.self _ | apply Take.cons | apply Out.there | apply Take.skip | exact Take.pre _ _ | apply Out.app)⟩
      · try simp only [decide_eq_true_eq, decide_eq_false_iff_not, Bool.not_eq_true', Bool.not_eq_false', beq_iff_eq, bne_iff_ne, beq_eq_false_iff_ne, bne_eq_false_iff_eq, Int.not_lt, Int.not_le, gt_iff_lt, ge_iff_le, ne_eq] at h3
        refine XL_det (.yes 26 rfl rfl rfl) (D_fld rfl fld_123_1 (o' := 1) rfl) rfl ?_
        refine XL_det (.yes 26 rfl rfl rfl) (D_ldo rfl (by with_reducible repeat first | exact .here _ _ | apply Out.there | apply Out.app) tk_3 (by rfl)) rfl ?_
        refine XL_det (.yes 26 rfl rfl rfl) (D_pure rfl) rfl ?_
        refine XL_det (.yes 26 rfl rfl rfl) (D_pure rfl) rfl ?_
        refine XL_det .no (D_pure rfl) rfl ?_
        refine XL_det .no (D_pure rfl) rfl ?_
        refine XL_split (t := 32) rfl (fun h4 => ?_) (fun h4 => ?_)
        · try simp only [decide_eq_true_eq, decide_eq_false_iff_not, Bool.not_eq_true', Bool.not_eq_false', beq_iff_eq, bne_iff_ne, beq_eq_false_iff_ne, bne_eq_false_iff_eq, Int.not_lt, Int.not_le, gt_iff_lt, ge_iff_le, ne_eq] at h4
          refine XL_skip 32 rfl rfl rfl rfl rfl ?_
          refine XL_skip 32 rfl rfl rfl rfl rfl ?_
          refine XL_skip 32 rfl rfl rfl rfl rfl ?_
          refine XL_skip 32 rfl rfl rfl rfl rfl ?_
          refine XL_det .no (D_pure rfl) rfl ?_
          refine XL_det .no (D_pure rfl) rfl ?_
          refine XL_skip 38 rfl rfl rfl rfl rfl ?_
          refine XL_skip 38 rfl rfl rfl rfl rfl ?_
          refine XL_skip 38 rfl rfl rfl rfl rfl ?_
          refine XL_skip 38 rfl rfl rfl rfl rfl ?_
          refine XL_skip 38 rfl rfl rfl rfl rfl ?_
          refine XL_det .no (D_pure rfl) rfl ?_
          refine XL_then ?_
          refine X_cond_t rfl rfl ?_
          refine X_seq ?_
          refine X_region ?_
          refine XL_det .no (D_zero zero_123 zk_123) rfl ?_
          refine XL_efd .no (F_stw rfl rfl rfl (by with_reducible repeat first | exact .here _ _ | apply Out.there | apply Out.app) tk_123 rfl rfl) ?_
          refine XL_det .no (D_pure rfl) rfl ?_
          refine XL_then ?_
          refine X_ret ?_
          refine thenX_ret ?_
          refine ret_ok (.nil _) (res_celltmp rfl rfl (by with_reducible repeat first | exact .here _ _ | apply Out.there | apply Out.app) tk_123 (by rfl) rfl) ?_
          exact ⟨_, ⟨by rw [cutS_n hj (by omega)]; rfl, rfl⟩, _, (by with_reducible repeat first | exact .nil _ | exact .here _ _ | exact Take.self _ | apply Take.cons | apply Out.there | apply Take.skip | exact Take.pre _ _ | apply Out.app)⟩
        · try simp only [decide_eq_true_eq, decide_eq_false_iff_not, Bool.not_eq_true', Bool.not_eq_false', beq_iff_eq, bne_iff_ne, beq_eq_false_iff_ne, bne_eq_false_iff_eq, Int.not_lt, Int.not_le, gt_iff_lt, ge_iff_le, ne_eq] at h4
          refine XL_det (.yes 32 rfl rfl rfl) (D_fld rfl fld_123_1 (o' := 1) rfl) rfl ?_
          refine XL_det (.yes 32 rfl rfl rfl) (D_ldo rfl (by with_reducible repeat first | exact .here _ _ | apply Out.there | apply Out.app) tk_3 (by rfl)) rfl ?_
          refine XL_det (.yes 32 rfl rfl rfl) (D_pure rfl) rfl ?_
          refine XL_det (.yes 32 rfl rfl rfl) (D_pure rfl) rfl ?_
          refine XL_det .no (D_pure rfl) rfl ?_
          refine XL_det .no (D_pure rfl) rfl ?_
          refine XL_split (t := 38) rfl (fun h5 => ?_) (fun h5 => ?_)
          · try simp only [decide_eq_true_eq, decide_eq_false_iff_not, Bool.not_eq_true', Bool.not_eq_false', beq_iff_eq, bne_iff_ne, beq_eq_false_iff_ne, bne_eq_false_iff_eq, Int.not_lt, Int.not_le, gt_iff_lt, ge_iff_le, ne_eq] at h5
            refine XL_skip 38 rfl rfl rfl rfl rfl ?_
            refine XL_skip 38 rfl rfl rfl rfl rfl ?_
            refine XL_skip 38 rfl rfl rfl rfl rfl ?_
            refine XL_skip 38 rfl rfl rfl rfl rfl ?_
            refine XL_skip 38 rfl rfl rfl rfl rfl ?_
            refine XL_det .no (D_pure rfl) rfl ?_
            refine XL_then ?_
            refine X_cond_t rfl rfl ?_
            refine X_seq ?_
            refine X_region ?_
            refine XL_det .no (D_zero zero_123 zk_123) rfl ?_
            refine XL_efd .no (F_stw rfl rfl rfl (by with_reducible repeat first | exact .here _ _ | apply Out.there | apply Out.app) tk_123 rfl rfl) ?_
            refine XL_det .no (D_pure rfl) rfl ?_
            refine XL_then ?_
            refine X_ret ?_
            refine thenX_ret ?_
            refine ret_ok (.nil _) (res_celltmp rfl rfl (by with_reducible repeat first | exact .here _ _ | apply Out.there | apply Out.app) tk_123 (by rfl) rfl) ?_
            exact ⟨_, ⟨by rw [cutS_n hj (by omega)]; rfl, rfl⟩, _, (by with_reducible repeat first | exact .nil _ | exact .here _ _ | exact Take.self _ | apply Take.cons | apply Out.there | apply Take.skip | exact Take.pre _ _ | apply Out.app)⟩
          · try simp only [decide_eq_true_eq, decide_eq_false_iff_not, Bool.not_eq_true', Bool.not_eq_false', beq_iff_eq, bne_iff_ne, beq_eq_false_iff_ne, bne_eq_false_iff_eq, Int.not_lt, Int.not_le, gt_iff_lt, ge_iff_le, ne_eq] at h5
            refine XL_det (.yes 38 rfl rfl rfl) (D_fld rfl fld_123_2 (o' := 2) rfl) rfl ?_
            refine XL_det (.yes 38 rfl rfl rfl) (D_ldo rfl (by with_reducible repeat first | exact .here _ _ | apply Out.there | apply Out.app) tk_3 (by rfl)) rfl ?_
            refine XL_det (.yes 38 rfl rfl rfl) (D_fld rfl fld_123_1 (o' := 1) rfl) rfl ?_
            refine XL_det (.yes 38 rfl rfl rfl) (D_ldo rfl (by with_reducible repeat first | exact .here _ _ | apply Out.there | apply Out.app) tk_3 (by rfl)) rfl ?_
            refine XL_det (.yes 38 rfl rfl rfl) (D_pure rfl) rfl ?_
            refine XL_det .no (D_pure rfl) rfl ?_
            refine XL_then ?_
            refine X_cond rfl (fun h6 => ?_) (fun h6 => ?_)
            · try simp only [decide_eq_true_eq, decide_eq_false_iff_not, Bool.not_eq_true', Bool.not_eq_false', beq_iff_eq, bne_iff_ne, beq_eq_false_iff_ne, bne_eq_false_iff_eq, Int.not_lt, Int.not_le, gt_iff_lt, ge_iff_le, ne_eq] at h6
              refine X_seq ?_
              refine X_region ?_
              refine XL_det .no (D_zero zero_123 zk_123) rfl ?_
              refine XL_efd .no (F_stw rfl rfl rfl (by with_reducible repeat first | exact .here _ _ | apply Out.there | apply Out.app) tk_123 rfl rfl) ?_
              refine XL_det .no (D_pure rfl) rfl ?_
              refine XL_then ?_
              refine X_ret ?_
              refine thenX_ret ?_
              refine ret_ok (.nil _) (res_celltmp rfl rfl (by with_reducible repeat first | exact .here _ _ | apply Out.there | apply Out.app) tk_123 (by rfl) rfl) ?_
              exact ⟨_, ⟨by rw [cutS_n hj (by omega)]; rfl, rfl⟩, _, (by with_reducible repeat first | exact .nil _ | exact .here _ _ | exact Take.self _ | apply Take.cons | apply Out.there | apply Take.skip | exact Take.pre _ _ | apply Out.app)⟩
            · try simp only [decide_eq_true_eq, decide_eq_false_iff_not, Bool.not_eq_true', Bool.not_eq_false', beq_iff_eq, bne_iff_ne, beq_eq_false_iff_ne, bne_eq_false_iff_eq, Int.not_lt, Int.not_le, gt_iff_lt, ge_iff_le, ne_eq] at h6
              refine X_skip ?_
              refine thenX_normal ?_
              refine X_seq ?_
              refine X_region ?_
              refine XL_det .no (D_fld rfl fld_123_2 (o' := 2) rfl) rfl ?_
              refine XL_det .no (D_ldo rfl (by with_reducible repeat first | exact .here _ _ | apply Out.there | apply Out.app) tk_3 (by rfl)) rfl ?_
              refine XL_det .no (D_pure rfl) rfl ?_
              refine XL_det .no (D_min rfl rfl) rfl ?_
              refine XL_det .no (D_fld rfl fld_123_2 (o' := 2) rfl) rfl ?_
              refine XL_efd .no (F_stl rfl rfl rfl (by with_reducible repeat first | exact .here _ _ | apply Out.there | apply Out.app) tk_3 (by repeat first | exact .zero _ _ _ | apply SetL.succ)) ?_
              refine XL_then ?_
              refine X_seq ?_
              refine X_seq ?_
              refine X_draw _ mixed (Take.self _) ?_
              refine XA_detp 0 rfl (by kernel_rfl) (by kernel_rfl) (by kernel_rfl) (fun _ _ _ _ h => h) .no (D_fldP rfl fld_123_2 (o' := 2) rfl) rfl ?_
              refine XA_det 1 rfl (by kernel_rfl) (by kernel_rfl) (by kernel_rfl) (by kernel_rfl) (fun _ _ _ _ h => h) .no (D_ldo rfl (by with_reducible repeat first | exact .here _ _ | apply Out.there | apply Out.app) tk_3 (by rfl)) rfl ?_
              refine XA_detp 2 rfl (by kernel_rfl) (by kernel_rfl) (by kernel_rfl) (fun _ _ _ _ h => h) .no (D_fldP rfl fld_123_1 (o' := 1) rfl) rfl ?_
              refine XA_det 3 rfl (by kernel_rfl) (by kernel_rfl) (by kernel_rfl) (by kernel_rfl) (fun _ _ _ _ h => h) .no (D_ldo rfl (by with_reducible repeat first | exact .here _ _ | apply Out.there | apply Out.app) tk_3 (by rfl)) rfl ?_
              refine XA_det 4 rfl (by kernel_rfl) (by kernel_rfl) (by kernel_rfl) (by kernel_rfl) (fun _ _ _ _ h => h) .no (D_sub rfl rfl (by omega) (by omega)) rfl ?_
              refine XA_detp 5 rfl (by kernel_rfl) (by kernel_rfl) (by kernel_rfl) (fun _ _ _ _ h => h) .no (D_fldP rfl fld_123_0 (o' := 0) rfl) rfl ?_
              refine XA_det 6 rfl (by kernel_rfl) (by kernel_rfl) (by kernel_rfl) (by kernel_rfl) (fun _ _ _ _ h => h) .no (D_ldo rfl (by with_reducible repeat first | exact .here _ _ | apply Out.there | apply Out.app) tk_3 (by rfl)) rfl ?_
              refine XA_detp 7 rfl (by kernel_rfl) (by kernel_rfl) (by kernel_rfl) (fun _ _ _ _ h => h) .no (D_fldP rfl fld_48_3 (o' := 3) rfl) rfl ?_
              refine XA_detp 8 rfl (by kernel_rfl) (by kernel_rfl) (by kernel_rfl) (fun _ _ _ _ h => h) .no (D_idxAP rfl rfl arr_33 hj (by omega) rfl) rfl ?_
              refine XA_det 9 rfl (by kernel_rfl) (by kernel_rfl) (by kernel_rfl) (by kernel_rfl) (fun _ _ _ _ h => h) .no (D_ldo rfl (by with_reducible repeat first | exact .here _ _ | apply Out.there | apply Out.app) tk_3 (encT_get (by omega))) rfl ?_
              refine XA_detp 10 rfl (by kernel_rfl) (by kernel_rfl) (by kernel_rfl) (fun _ _ _ _ h => h) .no (D_pureP rfl) rfl ?_
              refine XA_done (by kernel_rfl) ?_
              try simp only [List.cons_append, List.nil_append, List.append_nil]
              refine thenX_normal ?_
              refine X_cond rfl (fun h7 => ?_) (fun h7 => ?_)
              · try simp only [decide_eq_true_eq, decide_eq_false_iff_not, Bool.not_eq_true', Bool.not_eq_false', beq_iff_eq, bne_iff_ne, beq_eq_false_iff_ne, bne_eq_false_iff_eq, Int.not_lt, Int.not_le, gt_iff_lt, ge_iff_le, ne_eq] at h7
                refine X_draw _ mixed (Take.self _) ?_
                refine XA_detp 0 rfl (by kernel_rfl) (by kernel_rfl) (by kernel_rfl) (fun _ _ _ _ h => h) .no (D_fldP rfl fld_123_1 (o' := 1) rfl) rfl ?_
                refine XA_det 1 rfl (by kernel_rfl) (by kernel_rfl) (by kernel_rfl) (by kernel_rfl) (fun _ _ _ _ h => h) .no (D_ldo rfl (by with_reducible repeat first | exact .here _ _ | apply Out.there | apply Out.app) tk_3 (by rfl)) rfl ?_
                refine XA_detp 2 rfl (by kernel_rfl) (by kernel_rfl) (by kernel_rfl) (fun _ _ _ _ h => h) .no (D_fldP rfl fld_123_0 (o' := 0) rfl) rfl ?_
                refine XA_det 3 rfl (by kernel_rfl) (by kernel_rfl) (by kernel_rfl) (by kernel_rfl) (fun _ _ _ _ h => h) .no (D_ldo rfl (by with_reducible repeat first | exact .here _ _ | apply Out.there | apply Out.app) tk_3 (by rfl)) rfl ?_
                refine XA_detp 4 rfl (by kernel_rfl) (by kernel_rfl) (by kernel_rfl) (fun _ _ _ _ h => h) .no (D_fldP rfl fld_48_3 (o' := 3) rfl) rfl ?_
                refine XA_detp 5 rfl (by kernel_rfl) (by kernel_rfl) (by kernel_rfl) (fun _ _ _ _ h => h) .no (D_idxAP rfl rfl arr_33 hj (by omega) rfl) rfl ?_
                refine XA_det 6 rfl (by kernel_rfl) (by kernel_rfl) (by kernel_rfl) (by kernel_rfl) (fun _ _ _ _ h => h) .no (D_ldo rfl (by with_reducible repeat first | exact .here _ _ | apply Out.there | apply Out.app) tk_3 (encT_get (by omega))) rfl ?_
                refine XA_det 7 rfl (by kernel_rfl) (by kernel_rfl) (by kernel_rfl) (by kernel_rfl) (fun _ _ _ _ h => h) .no (D_add rfl rfl (by omega) (by omega)) rfl ?_
                refine XA_detp 8 rfl (by kernel_rfl) (by kernel_rfl) (by kernel_rfl) (fun _ _ _ _ h => h) .no (D_fldP rfl fld_123_2 (o' := 2) rfl) rfl ?_
                refine XA_one 9 (by kernel_rfl) ?_
                refine XO_efd rfl .no (by with_reducible repeat first | exact .nil _ | apply App.cons) (F_stl rfl rfl rfl (by with_reducible repeat first | exact .here _ _ | apply Out.there | apply Out.app) tk_3 (by repeat first | exact .zero _ _ _ | apply SetL.succ)) (by kernel_rfl) ?_
                refine XA_done (by kernel_rfl) ?_
                try simp only [List.cons_append, List.nil_append, List.append_nil]
                refine thenX_normal ?_
                refine X_seq ?_
                refine X_region ?_
                refine XL_det .no (D_ldso rfl (by with_reducible repeat first | exact .here _ _ | apply Out.there | apply Out.app) tk_123 rfl (by rfl)) rfl ?_
                refine XL_efd .no (F_stw rfl rfl rfl (by with_reducible repeat first | exact .here _ _ | apply Out.there | apply Out.app) tk_123 rfl rfl) ?_
                refine XL_det .no (D_pure rfl) rfl ?_
                refine XL_then ?_
                refine X_ret ?_
                refine ret_ok (.nil _) (res_celltmp rfl rfl (by with_reducible repeat first | exact .here _ _ | apply Out.there | apply Out.app) tk_123 (by rfl) rfl) ?_
                exact ⟨_, ⟨by rw [cutS_s hj (by omega) (by omega), if_pos (by omega)]; rfl, rfl⟩, _, (by with_reducible repeat first | exact .nil _ | exact .here _ _ | exact Take.self _ | apply Take.cons | apply Out.there | apply Take.skip | exact Take.pre _ _ | apply Out.app)⟩
              · try simp only [decide_eq_true_eq, decide_eq_false_iff_not, Bool.not_eq_true', Bool.not_eq_false', beq_iff_eq, bne_iff_ne, beq_eq_false_iff_ne, bne_eq_false_iff_eq, Int.not_lt, Int.not_le, gt_iff_lt, ge_iff_le, ne_eq] at h7
                refine X_skip ?_
                refine thenX_normal ?_
                refine X_seq ?_
                refine X_region ?_
                refine XL_det .no (D_ldso rfl (by with_reducible repeat first | exact .here _ _ | apply Out.there | apply Out.app) tk_123 rfl (by rfl)) rfl ?_
                refine XL_efd .no (F_stw rfl rfl rfl (by with_reducible repeat first | exact .here _ _ | apply Out.there | apply Out.app) tk_123 rfl rfl) ?_
                refine XL_det .no (D_pure rfl) rfl ?_
                refine XL_then ?_
                refine X_ret ?_
                refine ret_ok (.nil _) (res_celltmp rfl rfl (by with_reducible repeat first | exact .here _ _ | apply Out.there | apply Out.app) tk_123 (by rfl) rfl) ?_
                exact ⟨_, ⟨by rw [cutS_s hj (by omega) (by omega), if_neg (by omega)]; rfl, rfl⟩, _, (by with_reducible repeat first | exact .nil _ | exact .here _ _ | exact Take.self _ | apply Take.cons | apply Out.there | apply Take.skip | exact Take.pre _ _ | apply Out.app)⟩

theorem rleast (a b : Int) : Ctr Tryd.prog B 86 [.int .i64 a, .int .i64 b] [] (fun v S => v = .int .i64 (min a b) ∧ S = []) := by
  refine Ctr_of_X (N := 10) Tryd.func86 rfl (by simp) rfl ?_
  intro w0 D0
  refine X_seq ?_
  refine X_region ?_
  refine XL_det .no (D_pure rfl) rfl ?_
  refine XL_then ?_
  refine X_seq ?_
  refine X_seq ?_
  refine X_region ?_
  refine XL_det .no (D_pure rfl) rfl ?_
  refine XL_det .no (D_pure rfl) rfl ?_
  refine XL_det .no (D_pure rfl) rfl ?_
  refine XL_then ?_
  refine X_cond rfl (fun h1 => ?_) (fun h1 => ?_)
  · try simp only [decide_eq_true_eq, decide_eq_false_iff_not, Bool.not_eq_true', Bool.not_eq_false', beq_iff_eq, bne_iff_ne, beq_eq_false_iff_ne, bne_eq_false_iff_eq, Int.not_lt, Int.not_le, gt_iff_lt, ge_iff_le, ne_eq] at h1
    refine X_seq ?_
    refine X_region ?_
    refine XL_det .no (D_pure rfl) rfl ?_
    refine XL_det .no (D_pure rfl) rfl ?_
    refine XL_then ?_
    refine X_ret ?_
    refine thenX_ret ?_
    refine ret_ok (.nil _) (res_tmp rfl rfl) ?_
    exact ⟨_, ⟨by rw [Int.min_eq_left (by omega)], rfl⟩, _, (by with_reducible repeat first | exact .nil _ | exact .here _ _ | exact Take.self _ | apply Take.cons | apply Out.there | apply Take.skip | exact Take.pre _ _ | apply Out.app)⟩
  · try simp only [decide_eq_true_eq, decide_eq_false_iff_not, Bool.not_eq_true', Bool.not_eq_false', beq_iff_eq, bne_iff_ne, beq_eq_false_iff_ne, bne_eq_false_iff_eq, Int.not_lt, Int.not_le, gt_iff_lt, ge_iff_le, ne_eq] at h1
    refine X_skip ?_
    refine thenX_normal ?_
    refine X_seq ?_
    refine X_region ?_
    refine XL_det .no (D_pure rfl) rfl ?_
    refine XL_det .no (D_pure rfl) rfl ?_
    refine XL_then ?_
    refine X_ret ?_
    refine ret_ok (.nil _) (res_tmp rfl rfl) ?_
    exact ⟨_, ⟨by rw [Int.min_eq_right (by omega)], rfl⟩, _, (by with_reducible repeat first | exact .nil _ | exact .here _ _ | exact Take.self _ | apply Take.cons | apply Out.there | apply Take.skip | exact Take.pre _ _ | apply Out.app)⟩


theorem sec_eq (x y : Sec) : cellsEq (encS x) (encS y) = decide (x = y) := by
  obtain ⟨a, b, c⟩ := x; obtain ⟨d, e, f⟩ := y
  simp only [cellsEq, veq, Bool.and_true, Prod.mk.injEq]
  rw [Bool.eq_iff_iff]; simp
theorem take_s {α : Type} {a b : List α} {i : Nat} {x y : α} (h : a.take i = b.take i) (hx : a[i]? = some x) (hy : b[i]? = some y) (e : x = y) : a.take (i + 1) = b.take (i + 1) := by
  rw [List.take_add_one, List.take_add_one, h, hx, hy, e]
theorem get_secs {L pre rest : List Sec} {c : Sec} {many : Nat} (h : L = pre ++ c :: rest) (hp : pre.length = many) : many < (L.map fun s => [secV s]).length ∧ (L.map fun s => [secV s]).getD many [] = [secV c] := by
  subst h hp; simp [List.getD]

theorem jitr (ba bt bc : Nat) (T : Nat → Int) (cost : Int) (l : Arr Sec) (hl : Rd K l.ad (l.l.flatMap encS)) (hT : ∀ j, j < 8 → 0 ≤ T (3 + j)) (hc : cost ≤ 9223372036854775807) :
    Itr Tryd.prog B 82 [.pointer (some ⟨ba, 0, none⟩), .pointer (some ⟨bt, 0, none⟩), .pointer (some ⟨bc, 0, none⟩)] [blk ba [.slice l.oad l.l.length l.c] 39, blk bt (encT T) 48, blk bc [.int .i64 cost] 3, K] ((secs T cost 0 0 l.l).map fun s => [secV s]) := by
  intro ly J Jx S0 hJ0 hy
  change Ctr _ _ _ _ (blk ba [.slice l.oad l.l.length l.c] 39 :: blk bt (encT T) 48 :: blk bc [.int .i64 cost] 3 :: K :: S0) _
  refine Ctr_of_X (N := 38) Tryd.func82 rfl (by simp) rfl ?_
  intro w0 D0
  refine X_seq ?_
  refine X_region ?_
  refine XL_det .no (D_pure rfl) rfl ?_
  refine XL_det .no (D_pure rfl) rfl ?_
  refine XL_then ?_
  refine X_seq ?_
  refine X_region ?_
  refine XL_det .no (D_ldo rfl (by with_reducible repeat first | exact .here _ _ | apply Out.there | apply Out.app) tk_39 (by rfl)) rfl ?_
  refine XL_det .no (D_len rfl rfl slc_39) rfl ?_
  refine XL_det .no (D_pure rfl) rfl ?_
  refine XL_then ?_
  refine X_block ?_
  refine X_loop (α := Nat × Int × Nat × List (Asrt B)) (fun ⟨i, fr, many, S1⟩ => i ≤ l.l.length ∧ 0 ≤ fr ∧ J many S1 ∧ many ≤ 8 ∧ ∃ pre, secs T cost 0 0 l.l = pre ++ secs T cost fr many (l.l.drop i) ∧ pre.length = many) (fun ⟨i, fr, many, S1⟩ => [(5, .int .i64 fr), (6, .int .i64 (many : Int)), (13, .int .i64 (i : Int)), (0, .func (.yield ly) #[] #[]), (1, .pointer (some ⟨ba, 0, none⟩)), (2, .pointer (some ⟨bt, 0, none⟩)), (3, .pointer (some ⟨bc, 0, none⟩)), (11, .slice l.oad l.l.length l.c), (12, .int .i64 (l.l.length : Int))]) (fun ⟨i, fr, many, S1⟩ => blk ba [.slice l.oad l.l.length l.c] 39 :: blk bt (encT T) 48 :: blk bc [.int .i64 cost] 3 :: K :: S1) (fun ⟨i, fr, many, S1⟩ => l.l.length - i) (0, 0, 0, S0) ?_ (by refine ⟨?_, ?_, ?_, ?_, ?_, ?_, ?_, ?_, ?_, trivial⟩ <;> rfl) (by with_reducible repeat first | exact .nil _ | exact .here _ _ | exact Take.self _ | apply Take.cons | apply Out.there | apply Take.skip | exact Take.pre _ _ | apply Out.app) ?_
  · exact ⟨Nat.zero_le _, by decide, hJ0, by decide, [], rfl, rfl⟩
  · rintro ⟨i, fr, many, S1⟩ ⟨hi, hfr, hJ, hm, pre, hpre, hlen⟩
    dsimp only
    have hsm := l.small
    refine X_seq ?_
    refine X_region ?_
    refine XL_det .no (D_pure rfl) rfl ?_
    refine XL_then ?_
    refine X_seq ?_
    refine X_cond rfl (fun h1 => ?_) (fun h1 => ?_)
    · try simp only [decide_eq_true_eq, decide_eq_false_iff_not, Bool.not_eq_true', Bool.not_eq_false', beq_iff_eq, bne_iff_ne, beq_eq_false_iff_ne, bne_eq_false_iff_eq, Int.not_lt, Int.not_le, gt_iff_lt, ge_iff_le, ne_eq] at h1
      obtain ⟨s, hget⟩ : ∃ s, l.l[i]? = some s := ⟨_, List.getElem?_eq_getElem (by omega)⟩
      refine X_skip ?_
      refine thenX_normal ?_
      refine X_seq ?_
      refine X_block ?_
      refine X_seq ?_
      refine X_region ?_
      refine XL_det .no (D_idxSo rfl rfl slc_39 (l).nil0 rfl (by omega) rfl) rfl ?_
      refine XL_det .no (D_els (enc := encS) (sz := 3) (i := i) (fun _ => rfl) rfl (by with_reducible repeat first | exact .here _ _ | apply Out.there | apply Out.app) hl tk_123 hget) rfl ?_
      refine XL_alloc .no zero_123 rfl (fun b1 => ?_)
      refine XL_efd .no (F_stw rfl rfl rfl (by with_reducible repeat first | exact .here _ _ | apply Out.there | apply Out.app) tk_123 rfl rfl) ?_
      refine XL_then ?_
      refine X_seq ?_
      refine X_seq ?_
      refine X_region ?_
      refine XL_det .no (D_pure rfl) rfl ?_
      refine XL_det .no (D_pure rfl) rfl ?_
      refine XL_then ?_
      refine X_cond rfl (fun h2 => ?_) (fun h2 => ?_)
      · try simp only [decide_eq_true_eq, decide_eq_false_iff_not, Bool.not_eq_true', Bool.not_eq_false', beq_iff_eq, bne_iff_ne, beq_eq_false_iff_ne, bne_eq_false_iff_eq, Int.not_lt, Int.not_le, gt_iff_lt, ge_iff_le, ne_eq] at h2
        refine X_ret ?_
        refine thenX_ret ?_
        refine inBlk_ret ?_
        refine thenX_ret ?_
        refine loopQ_ret ?_
        refine inBlk_ret ?_
        refine ret_ok (.nil _) (res_none rfl) ?_
        have e8 : many = 8 := by omega
        subst e8
        exact ⟨blk ba [.slice l.oad l.l.length l.c] 39 :: blk bt (encT T) 48 :: blk bc [.int .i64 cost] 3 :: K :: S1, ⟨S1, rfl, .inl (by rw [List.length_map, hpre, secs_8, List.append_nil, hlen]; exact hJ)⟩, _, (by with_reducible repeat first | exact .nil _ | exact .here _ _ | exact Take.self _ | apply Take.cons | apply Out.there | apply Take.skip | exact Take.pre _ _ | apply Out.app)⟩
      · try simp only [decide_eq_true_eq, decide_eq_false_iff_not, Bool.not_eq_true', Bool.not_eq_false', beq_iff_eq, bne_iff_ne, beq_eq_false_iff_ne, bne_eq_false_iff_eq, Int.not_lt, Int.not_le, gt_iff_lt, ge_iff_le, ne_eq] at h2
        refine X_skip ?_
        refine thenX_normal ?_
        refine X_seq ?_
        refine X_region ?_
        refine XL_det .no (D_ldso rfl (by with_reducible repeat first | exact .here _ _ | apply Out.there | apply Out.app) tk_48 rfl (by rfl)) rfl ?_
        refine XL_det .no (D_ldo rfl (by with_reducible repeat first | exact .here _ _ | apply Out.there | apply Out.app) tk_3 (by rfl)) rfl ?_
        refine XL_det .no (D_pure rfl) rfl ?_
        refine XL_det .no (D_ldso rfl (by with_reducible repeat first | exact .here _ _ | apply Out.there | apply Out.app) tk_123 rfl (by rfl)) rfl ?_
        refine XL_callv .no en_83 rfl (jcut T cost fr s hT hfr hc) rfl ?_
        refine XL_det .no (D_pure rfl) rfl ?_
        refine XL_det .no (D_pure rfl) rfl ?_
        refine XL_det .no (D_pure rfl) rfl ?_
        refine XL_alloc .no zero_123 rfl (fun b2 => ?_)
        refine XL_efd .no (F_stw rfl rfl rfl (by with_reducible repeat first | exact .here _ _ | apply Out.there | apply Out.app) tk_123 rfl rfl) ?_
        refine XL_det .no (D_pure rfl) rfl ?_
        refine XL_then ?_
        refine X_seq ?_
        refine X_seq ?_
        refine X_region ?_
        refine XL_det .no (D_pure rfl) rfl ?_
        refine XL_det .no (D_pure rfl) rfl ?_
        refine XL_then ?_
        refine X_cond rfl (fun h3 => ?_) (fun h3 => ?_)
        · try simp only [decide_eq_true_eq, decide_eq_false_iff_not, Bool.not_eq_true', Bool.not_eq_false', beq_iff_eq, bne_iff_ne, beq_eq_false_iff_ne, bne_eq_false_iff_eq, Int.not_lt, Int.not_le, gt_iff_lt, ge_iff_le, ne_eq] at h3
          refine X_exit ?_
          refine thenX_exit ?_
          refine inBlk_here ?_
          refine thenX_normal ?_
          refine X_region ?_
          refine XL_det .no (D_add rfl rfl (by omega) (by omega)) rfl ?_
          refine XL_det .no (D_pure rfl) rfl ?_
          refine XL_nil ?_
          refine loopQ_next (i + 1, fr, many, S1) ?_ ?_ ?_ ?_
          · (try dsimp only); refine ⟨by omega, hfr, hJ, hm, pre, ?_, hlen⟩; rw [hpre, secs_n hget (by omega) (by simpa using h3)]
          · (try dsimp only); omega
          · refine ⟨?_, ?_, ?_, ?_, ?_, ?_, ?_, ?_, ?_, trivial⟩ <;> rfl
          · (try dsimp only); exact ⟨_, (by with_reducible repeat first | exact .nil _ | exact .here _ _ | exact Take.self _ | apply Take.cons | apply Out.there | apply Take.skip | exact Take.pre _ _ | apply Out.app)⟩
        · try simp only [decide_eq_true_eq, decide_eq_false_iff_not, Bool.not_eq_true', Bool.not_eq_false', beq_iff_eq, bne_iff_ne, beq_eq_false_iff_ne, bne_eq_false_iff_eq, Int.not_lt, Int.not_le, gt_iff_lt, ge_iff_le, ne_eq] at h3
          obtain ⟨c, hcs⟩ := Option.isSome_iff_exists.1 (by simpa using h3 : (cutS T cost fr s).isSome = true)
          obtain ⟨hmx, hgx⟩ := get_secs (L := secs T cost 0 0 l.l) (by rw [hpre, secs_s hget (by omega) hcs]) hlen
          have hyy := hy many S1 hmx hJ
          rw [hgx] at hyy
          simp only [hcs, Option.getD_some]
          refine X_skip ?_
          refine thenX_normal ?_
          refine X_seq ?_
          refine X_seq ?_
          refine X_region ?_
          refine XL_det .no (D_pure rfl) rfl ?_
          refine XL_det .no (D_ldso rfl (by with_reducible repeat first | exact .here _ _ | apply Out.there | apply Out.app) tk_123 rfl (by rfl)) rfl ?_
          refine XL_yield (own := [blk b2 (encS c) 123, blk b1 (encS s) 123, blk ba [.slice l.oad l.l.length l.c] 39, blk bt (encT T) 48, blk bc [.int .i64 cost] 3, K]) (Si := S1) .no rfl rfl hyy rfl ?_
          rintro bb S2 hp
          simp only [List.cons_append, List.nil_append]
          refine XL_det .no (D_pure rfl) rfl ?_
          refine XL_then ?_
          refine X_cond rfl (fun h4 => ?_) (fun h4 => ?_)
          · try simp only [decide_eq_true_eq, decide_eq_false_iff_not, Bool.not_eq_true', Bool.not_eq_false', beq_iff_eq, bne_iff_ne, beq_eq_false_iff_ne, bne_eq_false_iff_eq, Int.not_lt, Int.not_le, gt_iff_lt, ge_iff_le, ne_eq] at h4
            refine X_ret ?_
            refine thenX_ret ?_
            refine inBlk_ret ?_
            refine thenX_ret ?_
            refine loopQ_ret ?_
            refine inBlk_ret ?_
            refine ret_ok (.nil _) (res_none rfl) ?_
            obtain ⟨h, _⟩ | ⟨_, hp⟩ := hp
            · rw [h] at h4; cases h4
            exact ⟨blk ba [.slice l.oad l.l.length l.c] 39 :: blk bt (encT T) 48 :: blk bc [.int .i64 cost] 3 :: K :: S2, ⟨S2, rfl, .inr ⟨many, hmx, hp⟩⟩, _, (by with_reducible repeat first | exact .nil _ | exact .here _ _ | exact Take.self _ | apply Take.cons | apply Out.there | apply Take.skip | exact Take.pre _ _ | apply Out.app)⟩
          · try simp only [decide_eq_true_eq, decide_eq_false_iff_not, Bool.not_eq_true', Bool.not_eq_false', beq_iff_eq, bne_iff_ne, beq_eq_false_iff_ne, bne_eq_false_iff_eq, Int.not_lt, Int.not_le, gt_iff_lt, ge_iff_le, ne_eq] at h4
            obtain ⟨_, hp⟩ | ⟨h, _⟩ := hp
            rotate_left
            · rw [h] at h4; cases h4
            refine X_skip ?_
            refine thenX_normal ?_
            refine X_region ?_
            refine XL_det .no (D_fld rfl fld_123_2 (o' := 2) rfl) rfl ?_
            refine XL_det .no (D_ldo rfl (by with_reducible repeat first | exact .here _ _ | apply Out.there | apply Out.app) tk_3 (by rfl)) rfl ?_
            refine XL_det .no (D_pure rfl) rfl ?_
            refine XL_det .no (D_add rfl rfl (by omega) (by omega)) rfl ?_
            refine XL_det .no (D_pure rfl) rfl ?_
            refine XL_det .no (D_pure rfl) rfl ?_
            refine XL_nil ?_
            refine inBlk_normal ?_
            refine thenX_normal ?_
            refine X_region ?_
            refine XL_det .no (D_add rfl rfl (by omega) (by omega)) rfl ?_
            refine XL_det .no (D_pure rfl) rfl ?_
            refine XL_nil ?_
            refine loopQ_next (i + 1, c.2.2, many + 1, S2) ?_ ?_ ?_ ?_
            · (try dsimp only); refine ⟨by omega, (cut_to hT hcs hfr).1, hp, by omega, pre ++ [c], ?_, by simp [hlen]⟩; rw [hpre, secs_s hget (by omega) hcs, List.append_assoc]; rfl
            · (try dsimp only); omega
            · refine ⟨?_, ?_, ?_, ?_, ?_, ?_, ?_, ?_, ?_, trivial⟩ <;> rfl
            · (try dsimp only); exact ⟨_, (by with_reducible repeat first | exact .nil _ | exact .here _ _ | exact Take.self _ | apply Take.cons | apply Out.there | apply Take.skip | exact Take.pre _ _ | apply Out.app)⟩
    · try simp only [decide_eq_true_eq, decide_eq_false_iff_not, Bool.not_eq_true', Bool.not_eq_false', beq_iff_eq, bne_iff_ne, beq_eq_false_iff_ne, bne_eq_false_iff_eq, Int.not_lt, Int.not_le, gt_iff_lt, ge_iff_le, ne_eq] at h1
      refine X_exit ?_
      refine thenX_exit ?_
      refine loopQ_exit ?_
      refine inBlk_here ?_
      refine ret_okn (.nil _) (res_none rfl) ?_
      exact ⟨blk ba [.slice l.oad l.l.length l.c] 39 :: blk bt (encT T) 48 :: blk bc [.int .i64 cost] 3 :: K :: S1, ⟨S1, rfl, .inl (by rw [List.length_map, hpre, List.drop_of_length_le (by omega), secs, List.append_nil, hlen]; exact hJ)⟩, _, (by with_reducible repeat first | exact .nil _ | exact .here _ _ | exact Take.self _ | apply Take.cons | apply Out.there | apply Take.skip | exact Take.pre _ _ | apply Out.app)⟩


theorem secs_len {T : Nat → Int} {cost : Int} : ∀ (l : List Sec) (from_ : Int) (many : Nat), many ≤ 8 → (secs T cost from_ many l).length ≤ 8 - many
  | [], _, _, _ => by simp [secs]
  | s :: l, from_, many, h => by
    rw [secs]
    split
    · simp
    · cases hc : cutS T cost from_ s with
      | none => exact secs_len l from_ many h
      | some c => have := secs_len (T := T) (cost := cost) l c.2.2 (many + 1) (by omega); simp only [List.length_cons]; omega

theorem jsections (T : Nat → Int) (cost : Int) (l : Arr Sec) : Ctr Tryd.prog B 52 [tV T, .int .i64 cost, .slice l.oad l.l.length l.c] [] (fun v S => ∃ ba bt bc, v = .func (.func 82) #[] #[.pointer (some ⟨ba, 0, none⟩), .pointer (some ⟨bt, 0, none⟩), .pointer (some ⟨bc, 0, none⟩)] ∧ S = [blk ba [.slice l.oad l.l.length l.c] 39, blk bt (encT T) 48, blk bc [.int .i64 cost] 3]) := by
  refine Ctr_of_X (N := 8) Tryd.func52 rfl (by simp) rfl ?_
  intro w0 D0
  refine X_seq ?_
  refine X_region ?_
  refine XL_box .no rfl rfl rfl (fun b1 => ?_)
  refine XL_box .no rfl rfl rfl (fun b2 => ?_)
  refine XL_box .no rfl rfl rfl (fun b3 => ?_)
  refine XL_det .no (D_pure rfl) rfl ?_
  refine XL_then ?_
  refine X_seq ?_
  refine X_region ?_
  refine XL_det .no (D_pure rfl) rfl ?_
  refine XL_det .no (D_pure rfl) rfl ?_
  refine XL_then ?_
  refine X_ret ?_
  refine ret_ok (.nil _) (res_tmp rfl rfl) ?_
  exact ⟨[blk b3 [.slice l.oad l.l.length l.c] 39, blk b1 (encT T) 48, blk b2 [.int .i64 cost] 3], ⟨b3, b1, b2, rfl, rfl⟩, _, (by with_reducible repeat first | exact .nil _ | exact .here _ _ | exact Take.self _ | apply Take.cons | apply Out.there | apply Take.skip | exact Take.pre _ _ | apply Out.app)⟩

theorem jref (T : Nat → Int) (cost : Int) (l : Arr Sec) (hl : Rd K l.ad (l.l.flatMap encS)) (hT : ∀ j, j < 8 → 0 ≤ T (3 + j)) (hc : cost ≤ 9223372036854775807) : Ctr Tryd.prog B 64 [tV T, .int .i64 cost, .slice l.oad l.l.length l.c] [K] (fun v S => ∃ x : Arr Sec, (x.l = secs T cost 0 0 l.l ∧ x.Own) ∧ v = x.v ∧ S = [row (.slice x.oad x.l.length x.c) 123 3 x.l.length (x.l.flatMap encS)] ++ [K]) := by
  refine Ctr_of_X (N := 93) Tryd.func64 rfl (by simp) rfl ?_
  intro w0 D0
  refine X_seq ?_
  refine X_region ?_
  refine XL_box .no rfl rfl rfl (fun b1 => ?_)
  refine XL_det .no (D_pure rfl) rfl ?_
  refine XL_then ?_
  refine X_seq ?_
  refine X_region ?_
  refine XL_det .no (D_pure rfl) rfl ?_
  refine XL_then ?_
  refine X_seq ?_
  refine X_region ?_
  refine XL_det .no (D_pure rfl) rfl ?_
  refine XL_then ?_
  refine X_seq ?_
  refine X_seq ?_
  refine X_region ?_
  refine XL_det .no (D_pure rfl) rfl ?_
  refine XL_then ?_
  refine X_block ?_
  refine X_rowa encS 123 3 ?_
  refine X_loop (α := Nat × Int × Arr Sec) (fun ⟨i, fr, a⟩ => i ≤ l.l.length ∧ 0 ≤ fr ∧ a.Own ∧ a.l.length ≤ 8 ∧ secs T cost 0 0 l.l = a.l ++ secs T cost fr a.l.length (l.l.drop i)) (fun ⟨i, fr, a⟩ => [(9, .int .i64 (i : Int)), (8, .int .i64 fr), (7, .slice a.oad a.l.length a.c), (3, .pointer (some ⟨b1, 0, none⟩)), (1, .int .i64 cost), (2, .slice l.oad l.l.length l.c)]) (fun ⟨i, fr, a⟩ => [blk b1 (encT T) 48, row (.slice a.oad a.l.length a.c) 123 3 a.l.length (a.l.flatMap encS), K]) (fun ⟨i, fr, a⟩ => l.l.length - i) (0, 0, Arr.emp) ?_ (by refine ⟨?_, ?_, ?_, ?_, ?_, ?_, trivial⟩ <;> rfl) (by with_reducible repeat first | exact .nil _ | exact .here _ _ | exact Take.self _ | apply Take.cons | apply Out.there | apply Take.skip | exact Take.pre _ _ | apply Out.app) ?_
  · exact ⟨Nat.zero_le _, by decide, Arr.emp_own, by decide, rfl⟩
  · rintro ⟨i, fr, a⟩ ⟨hi, hfr, hown, hal, hsec⟩
    dsimp only
    have hsm := l.small
    refine X_seq ?_
    refine X_seq ?_
    refine X_region ?_
    refine XL_det .no (D_pure rfl) rfl ?_
    refine XL_det .no (D_pure rfl) rfl ?_
    refine XL_det .no (D_len rfl rfl slc_39) rfl ?_
    refine XL_det .no (D_pure rfl) rfl ?_
    refine XL_det .no (D_pure rfl) rfl ?_
    refine XL_split (t := 15) rfl (fun h1 => ?_) (fun h1 => ?_)
    · try simp only [decide_eq_true_eq, decide_eq_false_iff_not, Bool.not_eq_true', Bool.not_eq_false', beq_iff_eq, bne_iff_ne, beq_eq_false_iff_ne, bne_eq_false_iff_eq, Int.not_lt, Int.not_le, gt_iff_lt, ge_iff_le, ne_eq] at h1
      refine XL_det (.yes 15 rfl rfl rfl) (D_pure rfl) rfl ?_
      refine XL_det (.yes 15 rfl rfl rfl) (D_len rfl rfl slc_39) rfl ?_
      refine XL_det (.yes 15 rfl rfl rfl) (D_pure rfl) rfl ?_
      refine XL_det .no (D_pure rfl) rfl ?_
      refine XL_then ?_
      refine X_cond rfl (fun h2 => ?_) (fun h2 => ?_)
      · try simp only [decide_eq_true_eq, decide_eq_false_iff_not, Bool.not_eq_true', Bool.not_eq_false', beq_iff_eq, bne_iff_ne, beq_eq_false_iff_ne, bne_eq_false_iff_eq, Int.not_lt, Int.not_le, gt_iff_lt, ge_iff_le, ne_eq] at h2
        obtain ⟨s, hget⟩ : ∃ s, l.l[i]? = some s := ⟨_, List.getElem?_eq_getElem (by omega)⟩
        refine X_skip ?_
        refine thenX_normal ?_
        refine X_seq ?_
        refine X_block ?_
        refine X_seq ?_
        refine X_region ?_
        refine XL_det .no (D_pure rfl) rfl ?_
        refine XL_det .no (D_pure rfl) rfl ?_
        refine XL_det .no (D_idxSo rfl rfl slc_39 (l).nil0 rfl (by omega) rfl) rfl ?_
        refine XL_det .no (D_els (enc := encS) (sz := 3) (i := i) (fun _ => rfl) rfl (by with_reducible repeat first | exact .here _ _ | apply Out.there | apply Out.app) hl tk_123 hget) rfl ?_
        refine XL_alloc .no zero_123 rfl (fun b2 => ?_)
        refine XL_efd .no (F_stw rfl rfl rfl (by with_reducible repeat first | exact .here _ _ | apply Out.there | apply Out.app) tk_123 rfl rfl) ?_
        refine XL_then ?_
        refine X_seq ?_
        refine X_seq ?_
        refine X_region ?_
        refine XL_det .no (D_fld rfl fld_123_0 (o' := 0) rfl) rfl ?_
        refine XL_det .no (D_ldo rfl (by with_reducible repeat first | exact .here _ _ | apply Out.there | apply Out.app) tk_3 (by rfl)) rfl ?_
        refine XL_det .no (D_pure rfl) rfl ?_
        refine XL_det .no (D_pure rfl) rfl ?_
        refine XL_split (t := 29) rfl (fun h3 => ?_) (fun h3 => ?_)
        · try simp only [decide_eq_true_eq, decide_eq_false_iff_not, Bool.not_eq_true', Bool.not_eq_false', beq_iff_eq, bne_iff_ne, beq_eq_false_iff_ne, bne_eq_false_iff_eq, Int.not_lt, Int.not_le, gt_iff_lt, ge_iff_le, ne_eq] at h3
          refine XL_skip 29 rfl rfl rfl rfl rfl ?_
          refine XL_skip 29 rfl rfl rfl rfl rfl ?_
          refine XL_skip 29 rfl rfl rfl rfl rfl ?_
          refine XL_det .no (D_pure rfl) rfl ?_
          refine XL_det .no (D_pure rfl) rfl ?_
          refine XL_skip 34 rfl rfl rfl rfl rfl ?_
          refine XL_skip 34 rfl rfl rfl rfl rfl ?_
          refine XL_skip 34 rfl rfl rfl rfl rfl ?_
          refine XL_skip 34 rfl rfl rfl rfl rfl ?_
          refine XL_skip 34 rfl rfl rfl rfl rfl ?_
          refine XL_skip 34 rfl rfl rfl rfl rfl ?_
          refine XL_det .no (D_pure rfl) rfl ?_
          refine XL_det .no (D_pure rfl) rfl ?_
          refine XL_skip 42 rfl rfl rfl rfl rfl ?_
          refine XL_skip 42 rfl rfl rfl rfl rfl ?_
          refine XL_skip 42 rfl rfl rfl rfl rfl ?_
          refine XL_skip 42 rfl rfl rfl rfl rfl ?_
          refine XL_det .no (D_pure rfl) rfl ?_
          refine XL_det .no (D_pure rfl) rfl ?_
          refine XL_skip 48 rfl rfl rfl rfl rfl ?_
          refine XL_skip 48 rfl rfl rfl rfl rfl ?_
          refine XL_skip 48 rfl rfl rfl rfl rfl ?_
          refine XL_skip 48 rfl rfl rfl rfl rfl ?_
          refine XL_det .no (D_pure rfl) rfl ?_
          refine XL_det .no (D_pure rfl) rfl ?_
          refine XL_skip 54 rfl rfl rfl rfl rfl ?_
          refine XL_skip 54 rfl rfl rfl rfl rfl ?_
          refine XL_skip 54 rfl rfl rfl rfl rfl ?_
          refine XL_skip 54 rfl rfl rfl rfl rfl ?_
          refine XL_skip 54 rfl rfl rfl rfl rfl ?_
          refine XL_det .no (D_pure rfl) rfl ?_
          refine XL_then ?_
          refine X_cond_t rfl rfl ?_
          refine X_exit ?_
          refine thenX_exit ?_
          refine inBlk_here ?_
          refine thenX_normal ?_
          refine X_region ?_
          refine XL_det .no (D_pure rfl) rfl ?_
          refine XL_det .no (D_add rfl rfl (by omega) (by omega)) rfl ?_
          refine XL_det .no (D_pure rfl) rfl ?_
          refine XL_nil ?_
          refine loopQ_next (i + 1, fr, a) ?_ ?_ ?_ ?_
          · (try dsimp only); refine ⟨by omega, hfr, hown, hal, ?_⟩; rw [hsec, secs_n hget (by omega) (cutS_o (by omega))]
          · (try dsimp only); omega
          · refine ⟨?_, ?_, ?_, ?_, ?_, ?_, trivial⟩ <;> rfl
          · (try dsimp only); exact ⟨_, (by with_reducible repeat first | exact .nil _ | exact .here _ _ | exact Take.self _ | apply Take.cons | apply Out.there | apply Take.skip | exact Take.pre _ _ | apply Out.app)⟩
        · try simp only [decide_eq_true_eq, decide_eq_false_iff_not, Bool.not_eq_true', Bool.not_eq_false', beq_iff_eq, bne_iff_ne, beq_eq_false_iff_ne, bne_eq_false_iff_eq, Int.not_lt, Int.not_le, gt_iff_lt, ge_iff_le, ne_eq] at h3
          refine XL_det (.yes 29 rfl rfl rfl) (D_fld rfl fld_123_0 (o' := 0) rfl) rfl ?_
          refine XL_det (.yes 29 rfl rfl rfl) (D_ldo rfl (by with_reducible repeat first | exact .here _ _ | apply Out.there | apply Out.app) tk_3 (by rfl)) rfl ?_
          refine XL_det (.yes 29 rfl rfl rfl) (D_pure rfl) rfl ?_
          refine XL_det .no (D_pure rfl) rfl ?_
          refine XL_det .no (D_pure rfl) rfl ?_
          refine XL_split (t := 34) rfl (fun h4 => ?_) (fun h4 => ?_)
          · try simp only [decide_eq_true_eq, decide_eq_false_iff_not, Bool.not_eq_true', Bool.not_eq_false', beq_iff_eq, bne_iff_ne, beq_eq_false_iff_ne, bne_eq_false_iff_eq, Int.not_lt, Int.not_le, gt_iff_lt, ge_iff_le, ne_eq] at h4
            refine XL_skip 34 rfl rfl rfl rfl rfl ?_
            refine XL_skip 34 rfl rfl rfl rfl rfl ?_
            refine XL_skip 34 rfl rfl rfl rfl rfl ?_
            refine XL_skip 34 rfl rfl rfl rfl rfl ?_
            refine XL_skip 34 rfl rfl rfl rfl rfl ?_
            refine XL_skip 34 rfl rfl rfl rfl rfl ?_
            refine XL_det .no (D_pure rfl) rfl ?_
            refine XL_det .no (D_pure rfl) rfl ?_
            refine XL_skip 42 rfl rfl rfl rfl rfl ?_
            refine XL_skip 42 rfl rfl rfl rfl rfl ?_
            refine XL_skip 42 rfl rfl rfl rfl rfl ?_
            refine XL_skip 42 rfl rfl rfl rfl rfl ?_
            refine XL_det .no (D_pure rfl) rfl ?_
            refine XL_det .no (D_pure rfl) rfl ?_
            refine XL_skip 48 rfl rfl rfl rfl rfl ?_
            refine XL_skip 48 rfl rfl rfl rfl rfl ?_
            refine XL_skip 48 rfl rfl rfl rfl rfl ?_
            refine XL_skip 48 rfl rfl rfl rfl rfl ?_
            refine XL_det .no (D_pure rfl) rfl ?_
            refine XL_det .no (D_pure rfl) rfl ?_
            refine XL_skip 54 rfl rfl rfl rfl rfl ?_
            refine XL_skip 54 rfl rfl rfl rfl rfl ?_
            refine XL_skip 54 rfl rfl rfl rfl rfl ?_
            refine XL_skip 54 rfl rfl rfl rfl rfl ?_
            refine XL_skip 54 rfl rfl rfl rfl rfl ?_
            refine XL_det .no (D_pure rfl) rfl ?_
            refine XL_then ?_
            refine X_cond_t rfl rfl ?_
            refine X_exit ?_
            refine thenX_exit ?_
            refine inBlk_here ?_
            refine thenX_normal ?_
            refine X_region ?_
            refine XL_det .no (D_pure rfl) rfl ?_
            refine XL_det .no (D_add rfl rfl (by omega) (by omega)) rfl ?_
            refine XL_det .no (D_pure rfl) rfl ?_
            refine XL_nil ?_
            refine loopQ_next (i + 1, fr, a) ?_ ?_ ?_ ?_
            · (try dsimp only); refine ⟨by omega, hfr, hown, hal, ?_⟩; rw [hsec, secs_n hget (by omega) (cutS_o (by omega))]
            · (try dsimp only); omega
            · refine ⟨?_, ?_, ?_, ?_, ?_, ?_, trivial⟩ <;> rfl
            · (try dsimp only); exact ⟨_, (by with_reducible repeat first | exact .nil _ | exact .here _ _ | exact Take.self _ | apply Take.cons | apply Out.there | apply Take.skip | exact Take.pre _ _ | apply Out.app)⟩
          · try simp only [decide_eq_true_eq, decide_eq_false_iff_not, Bool.not_eq_true', Bool.not_eq_false', beq_iff_eq, bne_iff_ne, beq_eq_false_iff_ne, bne_eq_false_iff_eq, Int.not_lt, Int.not_le, gt_iff_lt, ge_iff_le, ne_eq] at h4
            obtain ⟨j, hj⟩ := Int.eq_ofNat_of_zero_le (a := s.1) (by omega)
            have hTj := hT j (by omega)
            refine XL_det (.yes 34 rfl rfl rfl) (D_fld rfl fld_123_0 (o' := 0) rfl) rfl ?_
            refine XL_det (.yes 34 rfl rfl rfl) (D_ldo rfl (by with_reducible repeat first | exact .here _ _ | apply Out.there | apply Out.app) tk_3 (by rfl)) rfl ?_
            refine XL_det (.yes 34 rfl rfl rfl) (D_fld rfl fld_48_3 (o' := 3) rfl) rfl ?_
            refine XL_det (.yes 34 rfl rfl rfl) (D_idxA rfl rfl arr_33 hj (by omega) rfl) rfl ?_
            refine XL_det (.yes 34 rfl rfl rfl) (D_ldo rfl (by with_reducible repeat first | exact .here _ _ | apply Out.there | apply Out.app) tk_3 (encT_get (by omega))) rfl ?_
            refine XL_det (.yes 34 rfl rfl rfl) (D_pure rfl) rfl ?_
            refine XL_det .no (D_pure rfl) rfl ?_
            refine XL_det .no (D_pure rfl) rfl ?_
            refine XL_split (t := 42) rfl (fun h5 => ?_) (fun h5 => ?_)
            · try simp only [decide_eq_true_eq, decide_eq_false_iff_not, Bool.not_eq_true', Bool.not_eq_false', beq_iff_eq, bne_iff_ne, beq_eq_false_iff_ne, bne_eq_false_iff_eq, Int.not_lt, Int.not_le, gt_iff_lt, ge_iff_le, ne_eq] at h5
              refine XL_skip 42 rfl rfl rfl rfl rfl ?_
              refine XL_skip 42 rfl rfl rfl rfl rfl ?_
              refine XL_skip 42 rfl rfl rfl rfl rfl ?_
              refine XL_skip 42 rfl rfl rfl rfl rfl ?_
              refine XL_det .no (D_pure rfl) rfl ?_
              refine XL_det .no (D_pure rfl) rfl ?_
              refine XL_skip 48 rfl rfl rfl rfl rfl ?_
              refine XL_skip 48 rfl rfl rfl rfl rfl ?_
              refine XL_skip 48 rfl rfl rfl rfl rfl ?_
              refine XL_skip 48 rfl rfl rfl rfl rfl ?_
              refine XL_det .no (D_pure rfl) rfl ?_
              refine XL_det .no (D_pure rfl) rfl ?_
              refine XL_skip 54 rfl rfl rfl rfl rfl ?_
              refine XL_skip 54 rfl rfl rfl rfl rfl ?_
              refine XL_skip 54 rfl rfl rfl rfl rfl ?_
              refine XL_skip 54 rfl rfl rfl rfl rfl ?_
              refine XL_skip 54 rfl rfl rfl rfl rfl ?_
              refine XL_det .no (D_pure rfl) rfl ?_
              refine XL_then ?_
              refine X_cond_t rfl rfl ?_
              refine X_exit ?_
              refine thenX_exit ?_
              refine inBlk_here ?_
              refine thenX_normal ?_
              refine X_region ?_
              refine XL_det .no (D_pure rfl) rfl ?_
              refine XL_det .no (D_add rfl rfl (by omega) (by omega)) rfl ?_
              refine XL_det .no (D_pure rfl) rfl ?_
              refine XL_nil ?_
              refine loopQ_next (i + 1, fr, a) ?_ ?_ ?_ ?_
              · (try dsimp only); refine ⟨by omega, hfr, hown, hal, ?_⟩; rw [hsec, secs_n hget (by omega) (cutS_n hj (by omega))]
              · (try dsimp only); omega
              · refine ⟨?_, ?_, ?_, ?_, ?_, ?_, trivial⟩ <;> rfl
              · (try dsimp only); exact ⟨_, (by with_reducible repeat first | exact .nil _ | exact .here _ _ | exact Take.self _ | apply Take.cons | apply Out.there | apply Take.skip | exact Take.pre _ _ | apply Out.app)⟩
            · try simp only [decide_eq_true_eq, decide_eq_false_iff_not, Bool.not_eq_true', Bool.not_eq_false', beq_iff_eq, bne_iff_ne, beq_eq_false_iff_ne, bne_eq_false_iff_eq, Int.not_lt, Int.not_le, gt_iff_lt, ge_iff_le, ne_eq] at h5
              refine XL_det (.yes 42 rfl rfl rfl) (D_fld rfl fld_123_1 (o' := 1) rfl) rfl ?_
              refine XL_det (.yes 42 rfl rfl rfl) (D_ldo rfl (by with_reducible repeat first | exact .here _ _ | apply Out.there | apply Out.app) tk_3 (by rfl)) rfl ?_
              refine XL_det (.yes 42 rfl rfl rfl) (D_pure rfl) rfl ?_
              refine XL_det (.yes 42 rfl rfl rfl) (D_pure rfl) rfl ?_
              refine XL_det .no (D_pure rfl) rfl ?_
              refine XL_det .no (D_pure rfl) rfl ?_
              refine XL_split (t := 48) rfl (fun h6 => ?_) (fun h6 => ?_)
              · try simp only [decide_eq_true_eq, decide_eq_false_iff_not, Bool.not_eq_true', Bool.not_eq_false', beq_iff_eq, bne_iff_ne, beq_eq_false_iff_ne, bne_eq_false_iff_eq, Int.not_lt, Int.not_le, gt_iff_lt, ge_iff_le, ne_eq] at h6
                refine XL_skip 48 rfl rfl rfl rfl rfl ?_
                refine XL_skip 48 rfl rfl rfl rfl rfl ?_
                refine XL_skip 48 rfl rfl rfl rfl rfl ?_
                refine XL_skip 48 rfl rfl rfl rfl rfl ?_
                refine XL_det .no (D_pure rfl) rfl ?_
                refine XL_det .no (D_pure rfl) rfl ?_
                refine XL_skip 54 rfl rfl rfl rfl rfl ?_
                refine XL_skip 54 rfl rfl rfl rfl rfl ?_
                refine XL_skip 54 rfl rfl rfl rfl rfl ?_
                refine XL_skip 54 rfl rfl rfl rfl rfl ?_
                refine XL_skip 54 rfl rfl rfl rfl rfl ?_
                refine XL_det .no (D_pure rfl) rfl ?_
                refine XL_then ?_
                refine X_cond_t rfl rfl ?_
                refine X_exit ?_
                refine thenX_exit ?_
                refine inBlk_here ?_
                refine thenX_normal ?_
                refine X_region ?_
                refine XL_det .no (D_pure rfl) rfl ?_
                refine XL_det .no (D_add rfl rfl (by omega) (by omega)) rfl ?_
                refine XL_det .no (D_pure rfl) rfl ?_
                refine XL_nil ?_
                refine loopQ_next (i + 1, fr, a) ?_ ?_ ?_ ?_
                · (try dsimp only); refine ⟨by omega, hfr, hown, hal, ?_⟩; rw [hsec, secs_n hget (by omega) (cutS_n hj (by omega))]
                · (try dsimp only); omega
                · refine ⟨?_, ?_, ?_, ?_, ?_, ?_, trivial⟩ <;> rfl
                · (try dsimp only); exact ⟨_, (by with_reducible repeat first | exact .nil _ | exact .here _ _ | exact Take.self _ | apply Take.cons | apply Out.there | apply Take.skip | exact Take.pre _ _ | apply Out.app)⟩
              · try simp only [decide_eq_true_eq, decide_eq_false_iff_not, Bool.not_eq_true', Bool.not_eq_false', beq_iff_eq, bne_iff_ne, beq_eq_false_iff_ne, bne_eq_false_iff_eq, Int.not_lt, Int.not_le, gt_iff_lt, ge_iff_le, ne_eq] at h6
                refine XL_det (.yes 48 rfl rfl rfl) (D_fld rfl fld_123_1 (o' := 1) rfl) rfl ?_
                refine XL_det (.yes 48 rfl rfl rfl) (D_ldo rfl (by with_reducible repeat first | exact .here _ _ | apply Out.there | apply Out.app) tk_3 (by rfl)) rfl ?_
                refine XL_det (.yes 48 rfl rfl rfl) (D_pure rfl) rfl ?_
                refine XL_det (.yes 48 rfl rfl rfl) (D_pure rfl) rfl ?_
                refine XL_det .no (D_pure rfl) rfl ?_
                refine XL_det .no (D_pure rfl) rfl ?_
                refine XL_split (t := 54) rfl (fun h7 => ?_) (fun h7 => ?_)
                · try simp only [decide_eq_true_eq, decide_eq_false_iff_not, Bool.not_eq_true', Bool.not_eq_false', beq_iff_eq, bne_iff_ne, beq_eq_false_iff_ne, bne_eq_false_iff_eq, Int.not_lt, Int.not_le, gt_iff_lt, ge_iff_le, ne_eq] at h7
                  refine XL_skip 54 rfl rfl rfl rfl rfl ?_
                  refine XL_skip 54 rfl rfl rfl rfl rfl ?_
                  refine XL_skip 54 rfl rfl rfl rfl rfl ?_
                  refine XL_skip 54 rfl rfl rfl rfl rfl ?_
                  refine XL_skip 54 rfl rfl rfl rfl rfl ?_
                  refine XL_det .no (D_pure rfl) rfl ?_
                  refine XL_then ?_
                  refine X_cond_t rfl rfl ?_
                  refine X_exit ?_
                  refine thenX_exit ?_
                  refine inBlk_here ?_
                  refine thenX_normal ?_
                  refine X_region ?_
                  refine XL_det .no (D_pure rfl) rfl ?_
                  refine XL_det .no (D_add rfl rfl (by omega) (by omega)) rfl ?_
                  refine XL_det .no (D_pure rfl) rfl ?_
                  refine XL_nil ?_
                  refine loopQ_next (i + 1, fr, a) ?_ ?_ ?_ ?_
                  · (try dsimp only); refine ⟨by omega, hfr, hown, hal, ?_⟩; rw [hsec, secs_n hget (by omega) (cutS_n hj (by omega))]
                  · (try dsimp only); omega
                  · refine ⟨?_, ?_, ?_, ?_, ?_, ?_, trivial⟩ <;> rfl
                  · (try dsimp only); exact ⟨_, (by with_reducible repeat first | exact .nil _ | exact .here _ _ | exact Take.self _ | apply Take.cons | apply Out.there | apply Take.skip | exact Take.pre _ _ | apply Out.app)⟩
                · try simp only [decide_eq_true_eq, decide_eq_false_iff_not, Bool.not_eq_true', Bool.not_eq_false', beq_iff_eq, bne_iff_ne, beq_eq_false_iff_ne, bne_eq_false_iff_eq, Int.not_lt, Int.not_le, gt_iff_lt, ge_iff_le, ne_eq] at h7
                  refine XL_det (.yes 54 rfl rfl rfl) (D_fld rfl fld_123_2 (o' := 2) rfl) rfl ?_
                  refine XL_det (.yes 54 rfl rfl rfl) (D_ldo rfl (by with_reducible repeat first | exact .here _ _ | apply Out.there | apply Out.app) tk_3 (by rfl)) rfl ?_
                  refine XL_det (.yes 54 rfl rfl rfl) (D_fld rfl fld_123_1 (o' := 1) rfl) rfl ?_
                  refine XL_det (.yes 54 rfl rfl rfl) (D_ldo rfl (by with_reducible repeat first | exact .here _ _ | apply Out.there | apply Out.app) tk_3 (by rfl)) rfl ?_
                  refine XL_det (.yes 54 rfl rfl rfl) (D_pure rfl) rfl ?_
                  refine XL_det .no (D_pure rfl) rfl ?_
                  refine XL_then ?_
                  refine X_cond rfl (fun h8 => ?_) (fun h8 => ?_)
                  · try simp only [decide_eq_true_eq, decide_eq_false_iff_not, Bool.not_eq_true', Bool.not_eq_false', beq_iff_eq, bne_iff_ne, beq_eq_false_iff_ne, bne_eq_false_iff_eq, Int.not_lt, Int.not_le, gt_iff_lt, ge_iff_le, ne_eq] at h8
                    refine X_exit ?_
                    refine thenX_exit ?_
                    refine inBlk_here ?_
                    refine thenX_normal ?_
                    refine X_region ?_
                    refine XL_det .no (D_pure rfl) rfl ?_
                    refine XL_det .no (D_add rfl rfl (by omega) (by omega)) rfl ?_
                    refine XL_det .no (D_pure rfl) rfl ?_
                    refine XL_nil ?_
                    refine loopQ_next (i + 1, fr, a) ?_ ?_ ?_ ?_
                    · (try dsimp only); refine ⟨by omega, hfr, hown, hal, ?_⟩; rw [hsec, secs_n hget (by omega) (cutS_n hj (by omega))]
                    · (try dsimp only); omega
                    · refine ⟨?_, ?_, ?_, ?_, ?_, ?_, trivial⟩ <;> rfl
                    · (try dsimp only); exact ⟨_, (by with_reducible repeat first | exact .nil _ | exact .here _ _ | exact Take.self _ | apply Take.cons | apply Out.there | apply Take.skip | exact Take.pre _ _ | apply Out.app)⟩
                  · try simp only [decide_eq_true_eq, decide_eq_false_iff_not, Bool.not_eq_true', Bool.not_eq_false', beq_iff_eq, bne_iff_ne, beq_eq_false_iff_ne, bne_eq_false_iff_eq, Int.not_lt, Int.not_le, gt_iff_lt, ge_iff_le, ne_eq] at h8
                    refine X_skip ?_
                    refine thenX_normal ?_
                    refine X_seq ?_
                    refine X_region ?_
                    refine XL_det .no (D_fld rfl fld_123_2 (o' := 2) rfl) rfl ?_
                    refine XL_det .no (D_ldo rfl (by with_reducible repeat first | exact .here _ _ | apply Out.there | apply Out.app) tk_3 (by rfl)) rfl ?_
                    refine XL_det .no (D_pure rfl) rfl ?_
                    refine XL_callv .no en_86 rfl (rleast _ _) rfl ?_
                    refine XL_det .no (D_fld rfl fld_123_2 (o' := 2) rfl) rfl ?_
                    refine XL_efd .no (F_stl rfl rfl rfl (by with_reducible repeat first | exact .here _ _ | apply Out.there | apply Out.app) tk_3 (by repeat first | exact .zero _ _ _ | apply SetL.succ)) ?_
                    refine XL_then ?_
                    refine X_seq ?_
                    refine X_seq ?_
                    refine X_draw _ mixed (Take.self _) ?_
                    refine XA_detp 0 rfl (by kernel_rfl) (by kernel_rfl) (by kernel_rfl) (fun _ _ _ _ h => h) .no (D_fldP rfl fld_123_2 (o' := 2) rfl) rfl ?_
                    refine XA_det 1 rfl (by kernel_rfl) (by kernel_rfl) (by kernel_rfl) (by kernel_rfl) (fun _ _ _ _ h => h) .no (D_ldo rfl (by with_reducible repeat first | exact .here _ _ | apply Out.there | apply Out.app) tk_3 (by rfl)) rfl ?_
                    refine XA_detp 2 rfl (by kernel_rfl) (by kernel_rfl) (by kernel_rfl) (fun _ _ _ _ h => h) .no (D_fldP rfl fld_123_1 (o' := 1) rfl) rfl ?_
                    refine XA_det 3 rfl (by kernel_rfl) (by kernel_rfl) (by kernel_rfl) (by kernel_rfl) (fun _ _ _ _ h => h) .no (D_ldo rfl (by with_reducible repeat first | exact .here _ _ | apply Out.there | apply Out.app) tk_3 (by rfl)) rfl ?_
                    refine XA_det 4 rfl (by kernel_rfl) (by kernel_rfl) (by kernel_rfl) (by kernel_rfl) (fun _ _ _ _ h => h) .no (D_sub rfl rfl (by omega) (by omega)) rfl ?_
                    refine XA_detp 5 rfl (by kernel_rfl) (by kernel_rfl) (by kernel_rfl) (fun _ _ _ _ h => h) .no (D_fldP rfl fld_123_0 (o' := 0) rfl) rfl ?_
                    refine XA_det 6 rfl (by kernel_rfl) (by kernel_rfl) (by kernel_rfl) (by kernel_rfl) (fun _ _ _ _ h => h) .no (D_ldo rfl (by with_reducible repeat first | exact .here _ _ | apply Out.there | apply Out.app) tk_3 (by rfl)) rfl ?_
                    refine XA_detp 7 rfl (by kernel_rfl) (by kernel_rfl) (by kernel_rfl) (fun _ _ _ _ h => h) .no (D_fldP rfl fld_48_3 (o' := 3) rfl) rfl ?_
                    refine XA_detp 8 rfl (by kernel_rfl) (by kernel_rfl) (by kernel_rfl) (fun _ _ _ _ h => h) .no (D_idxAP rfl rfl arr_33 hj (by omega) rfl) rfl ?_
                    refine XA_det 9 rfl (by kernel_rfl) (by kernel_rfl) (by kernel_rfl) (by kernel_rfl) (fun _ _ _ _ h => h) .no (D_ldo rfl (by with_reducible repeat first | exact .here _ _ | apply Out.there | apply Out.app) tk_3 (encT_get (by omega))) rfl ?_
                    refine XA_detp 10 rfl (by kernel_rfl) (by kernel_rfl) (by kernel_rfl) (fun _ _ _ _ h => h) .no (D_pureP rfl) rfl ?_
                    refine XA_done (by kernel_rfl) ?_
                    try simp only [List.cons_append, List.nil_append, List.append_nil]
                    refine thenX_normal ?_
                    refine X_cond rfl (fun h9 => ?_) (fun h9 => ?_)
                    · try simp only [decide_eq_true_eq, decide_eq_false_iff_not, Bool.not_eq_true', Bool.not_eq_false', beq_iff_eq, bne_iff_ne, beq_eq_false_iff_ne, bne_eq_false_iff_eq, Int.not_lt, Int.not_le, gt_iff_lt, ge_iff_le, ne_eq] at h9
                      have hcs : cutS T cost fr s = some (s.1, s.2.1, s.2.1 + T (3 + j)) := by rw [cutS_s hj (by omega) (by omega), if_pos (by omega)]
                      refine X_draw _ mixed (Take.self _) ?_
                      refine XA_detp 0 rfl (by kernel_rfl) (by kernel_rfl) (by kernel_rfl) (fun _ _ _ _ h => h) .no (D_fldP rfl fld_123_1 (o' := 1) rfl) rfl ?_
                      refine XA_det 1 rfl (by kernel_rfl) (by kernel_rfl) (by kernel_rfl) (by kernel_rfl) (fun _ _ _ _ h => h) .no (D_ldo rfl (by with_reducible repeat first | exact .here _ _ | apply Out.there | apply Out.app) tk_3 (by rfl)) rfl ?_
                      refine XA_detp 2 rfl (by kernel_rfl) (by kernel_rfl) (by kernel_rfl) (fun _ _ _ _ h => h) .no (D_fldP rfl fld_123_0 (o' := 0) rfl) rfl ?_
                      refine XA_det 3 rfl (by kernel_rfl) (by kernel_rfl) (by kernel_rfl) (by kernel_rfl) (fun _ _ _ _ h => h) .no (D_ldo rfl (by with_reducible repeat first | exact .here _ _ | apply Out.there | apply Out.app) tk_3 (by rfl)) rfl ?_
                      refine XA_detp 4 rfl (by kernel_rfl) (by kernel_rfl) (by kernel_rfl) (fun _ _ _ _ h => h) .no (D_fldP rfl fld_48_3 (o' := 3) rfl) rfl ?_
                      refine XA_detp 5 rfl (by kernel_rfl) (by kernel_rfl) (by kernel_rfl) (fun _ _ _ _ h => h) .no (D_idxAP rfl rfl arr_33 hj (by omega) rfl) rfl ?_
                      refine XA_det 6 rfl (by kernel_rfl) (by kernel_rfl) (by kernel_rfl) (by kernel_rfl) (fun _ _ _ _ h => h) .no (D_ldo rfl (by with_reducible repeat first | exact .here _ _ | apply Out.there | apply Out.app) tk_3 (encT_get (by omega))) rfl ?_
                      refine XA_det 7 rfl (by kernel_rfl) (by kernel_rfl) (by kernel_rfl) (by kernel_rfl) (fun _ _ _ _ h => h) .no (D_add rfl rfl (by omega) (by omega)) rfl ?_
                      refine XA_detp 8 rfl (by kernel_rfl) (by kernel_rfl) (by kernel_rfl) (fun _ _ _ _ h => h) .no (D_fldP rfl fld_123_2 (o' := 2) rfl) rfl ?_
                      refine XA_one 9 (by kernel_rfl) ?_
                      refine XO_efd rfl .no (by with_reducible repeat first | exact .nil _ | apply App.cons) (F_stl rfl rfl rfl (by with_reducible repeat first | exact .here _ _ | apply Out.there | apply Out.app) tk_3 (by repeat first | exact .zero _ _ _ | apply SetL.succ)) (by kernel_rfl) ?_
                      refine XA_done (by kernel_rfl) ?_
                      try simp only [List.cons_append, List.nil_append, List.append_nil]
                      refine thenX_normal ?_
                      refine X_seq ?_
                      refine X_region ?_
                      refine XL_det .no (D_pure rfl) rfl ?_
                      refine XL_det .no (D_ldso rfl (by with_reducible repeat first | exact .here _ _ | apply Out.there | apply Out.app) tk_123 rfl (by rfl)) rfl ?_
                      refine XL_bslice (cs := encS (s.1, s.2.1, s.2.1 + T (3 + j))) .no rfl slt_39 (by decide) (by decide) (by rfl) (by rfl) rfl rfl (fun b3 => ?_)
                      refine XL_append (K := blk b3 (encS (s.1, s.2.1, s.2.1 + T (3 + j))) 123) (news := encS (s.1, s.2.1, s.2.1 + T (3 + j))) .no rfl rfl slt_39 (by with_reducible repeat first | exact .here _ _ | apply Out.there | apply Out.app) (by with_reducible repeat first | exact .here _ _ | apply Out.there | apply Out.app) (Rd_blk0) (by rfl) (by simp [Value.oneCell']) (by unfold maxLen; omega) (by omega) rfl (fun v2 hv2 => ?_)
                      rw [flat_app]
                      refine XL_learn (fun w h => row_arr (l := a.l ++ [(s.1, s.2.1, s.2.1 + T (3 + j))]) (enc := encS) h (by with_reducible repeat first | exact .here _ _ | apply Out.there | apply Out.app) (by simp)) ?_
                      rintro ⟨a2, ha2, hown2, rfl⟩
                      rw [show a.l.length + 1 = a2.l.length from by rw [ha2]; simp, ← ha2]
                      refine XL_det .no (D_pure rfl) rfl ?_
                      refine XL_then ?_
                      refine X_region ?_
                      refine XL_det .no (D_fld rfl fld_123_2 (o' := 2) rfl) rfl ?_
                      refine XL_det .no (D_ldo rfl (by with_reducible repeat first | exact .here _ _ | apply Out.there | apply Out.app) tk_3 (by rfl)) rfl ?_
                      refine XL_det .no (D_pure rfl) rfl ?_
                      refine XL_nil ?_
                      refine inBlk_normal ?_
                      refine thenX_normal ?_
                      refine X_region ?_
                      refine XL_det .no (D_pure rfl) rfl ?_
                      refine XL_det .no (D_add rfl rfl (by omega) (by omega)) rfl ?_
                      refine XL_det .no (D_pure rfl) rfl ?_
                      refine XL_nil ?_
                      refine loopQ_next (i + 1, s.2.1 + T (3 + j), a2) ?_ ?_ ?_ ?_
                      · (try dsimp only); refine ⟨by omega, (cut_to hT hcs hfr).1, hown2, by rw [ha2, List.length_append]; show a.l.length + 1 ≤ 8; omega, ?_⟩; rw [hsec, secs_s hget (by omega) hcs, ha2, List.append_assoc, List.length_append]; rfl
                      · (try dsimp only); omega
                      · refine ⟨?_, ?_, ?_, ?_, ?_, ?_, trivial⟩ <;> rfl
                      · (try dsimp only); exact ⟨_, (by with_reducible repeat first | exact .nil _ | exact .here _ _ | exact Take.self _ | apply Take.cons | apply Out.there | apply Take.skip | exact Take.pre _ _ | apply Out.app)⟩
                    · try simp only [decide_eq_true_eq, decide_eq_false_iff_not, Bool.not_eq_true', Bool.not_eq_false', beq_iff_eq, bne_iff_ne, beq_eq_false_iff_ne, bne_eq_false_iff_eq, Int.not_lt, Int.not_le, gt_iff_lt, ge_iff_le, ne_eq] at h9
                      have hcs : cutS T cost fr s = some (s.1, s.2.1, min s.2.2 cost) := by rw [cutS_s hj (by omega) (by omega), if_neg (by omega)]
                      refine X_skip ?_
                      refine thenX_normal ?_
                      refine X_seq ?_
                      refine X_region ?_
                      refine XL_det .no (D_pure rfl) rfl ?_
                      refine XL_det .no (D_ldso rfl (by with_reducible repeat first | exact .here _ _ | apply Out.there | apply Out.app) tk_123 rfl (by rfl)) rfl ?_
                      refine XL_bslice (cs := encS (s.1, s.2.1, min s.2.2 cost)) .no rfl slt_39 (by decide) (by decide) (by rfl) (by rfl) rfl rfl (fun b4 => ?_)
                      refine XL_append (K := blk b4 (encS (s.1, s.2.1, min s.2.2 cost)) 123) (news := encS (s.1, s.2.1, min s.2.2 cost)) .no rfl rfl slt_39 (by with_reducible repeat first | exact .here _ _ | apply Out.there | apply Out.app) (by with_reducible repeat first | exact .here _ _ | apply Out.there | apply Out.app) (Rd_blk0) (by rfl) (by simp [Value.oneCell']) (by unfold maxLen; omega) (by omega) rfl (fun v2 hv2 => ?_)
                      rw [flat_app]
                      refine XL_learn (fun w h => row_arr (l := a.l ++ [(s.1, s.2.1, min s.2.2 cost)]) (enc := encS) h (by with_reducible repeat first | exact .here _ _ | apply Out.there | apply Out.app) (by simp)) ?_
                      rintro ⟨a2, ha2, hown2, rfl⟩
                      rw [show a.l.length + 1 = a2.l.length from by rw [ha2]; simp, ← ha2]
                      refine XL_det .no (D_pure rfl) rfl ?_
                      refine XL_then ?_
                      refine X_region ?_
                      refine XL_det .no (D_fld rfl fld_123_2 (o' := 2) rfl) rfl ?_
                      refine XL_det .no (D_ldo rfl (by with_reducible repeat first | exact .here _ _ | apply Out.there | apply Out.app) tk_3 (by rfl)) rfl ?_
                      refine XL_det .no (D_pure rfl) rfl ?_
                      refine XL_nil ?_
                      refine inBlk_normal ?_
                      refine thenX_normal ?_
                      refine X_region ?_
                      refine XL_det .no (D_pure rfl) rfl ?_
                      refine XL_det .no (D_add rfl rfl (by omega) (by omega)) rfl ?_
                      refine XL_det .no (D_pure rfl) rfl ?_
                      refine XL_nil ?_
                      refine loopQ_next (i + 1, min s.2.2 cost, a2) ?_ ?_ ?_ ?_
                      · (try dsimp only); refine ⟨by omega, (cut_to hT hcs hfr).1, hown2, by rw [ha2, List.length_append]; show a.l.length + 1 ≤ 8; omega, ?_⟩; rw [hsec, secs_s hget (by omega) hcs, ha2, List.append_assoc, List.length_append]; rfl
                      · (try dsimp only); omega
                      · refine ⟨?_, ?_, ?_, ?_, ?_, ?_, trivial⟩ <;> rfl
                      · (try dsimp only); exact ⟨_, (by with_reducible repeat first | exact .nil _ | exact .here _ _ | exact Take.self _ | apply Take.cons | apply Out.there | apply Take.skip | exact Take.pre _ _ | apply Out.app)⟩
      · try simp only [decide_eq_true_eq, decide_eq_false_iff_not, Bool.not_eq_true', Bool.not_eq_false', beq_iff_eq, bne_iff_ne, beq_eq_false_iff_ne, bne_eq_false_iff_eq, Int.not_lt, Int.not_le, gt_iff_lt, ge_iff_le, ne_eq] at h2
        refine X_exit ?_
        refine thenX_exit ?_
        refine loopQ_exit ?_
        refine inBlk_here ?_
        refine thenX_normal ?_
        refine X_seq ?_
        refine X_region ?_
        refine XL_det .no (D_pure rfl) rfl ?_
        refine XL_det .no (D_pure rfl) rfl ?_
        refine XL_then ?_
        refine X_ret ?_
        refine ret_ok (.nil _) (res_tmp rfl rfl) ?_
        exact ⟨[row (.slice a.oad a.l.length a.c) 123 3 a.l.length (a.l.flatMap encS), K], ⟨a, ⟨by rw [hsec, show a.l.length = 8 by omega, secs_8, List.append_nil], hown⟩, rfl, rfl⟩, _, (by with_reducible repeat first | exact .nil _ | exact .here _ _ | exact Take.self _ | apply Take.cons | apply Out.there | apply Take.skip | exact Take.pre _ _ | apply Out.app)⟩
    · try simp only [decide_eq_true_eq, decide_eq_false_iff_not, Bool.not_eq_true', Bool.not_eq_false', beq_iff_eq, bne_iff_ne, beq_eq_false_iff_ne, bne_eq_false_iff_eq, Int.not_lt, Int.not_le, gt_iff_lt, ge_iff_le, ne_eq] at h1
      refine XL_skip 15 rfl rfl rfl rfl rfl ?_
      refine XL_skip 15 rfl rfl rfl rfl rfl ?_
      refine XL_skip 15 rfl rfl rfl rfl rfl ?_
      refine XL_det .no (D_pure rfl) rfl ?_
      refine XL_then ?_
      refine X_cond_f rfl rfl ?_
      refine X_exit ?_
      refine thenX_exit ?_
      refine loopQ_exit ?_
      refine inBlk_here ?_
      refine thenX_normal ?_
      refine X_seq ?_
      refine X_region ?_
      refine XL_det .no (D_pure rfl) rfl ?_
      refine XL_det .no (D_pure rfl) rfl ?_
      refine XL_then ?_
      refine X_ret ?_
      refine ret_ok (.nil _) (res_tmp rfl rfl) ?_
      exact ⟨[row (.slice a.oad a.l.length a.c) 123 3 a.l.length (a.l.flatMap encS), K], ⟨a, ⟨by rw [hsec, List.drop_of_length_le (by omega), secs, List.append_nil], hown⟩, rfl, rfl⟩, _, (by with_reducible repeat first | exact .nil _ | exact .here _ _ | exact Take.self _ | apply Take.cons | apply Out.there | apply Take.skip | exact Take.pre _ _ | apply Out.app)⟩

theorem jnew (id now : Int) (T : Nat → Int) (cost : Int) (l : Arr Sec) (hl : Rd K l.ad (l.l.flatMap encS)) (hT : ∀ j, j < 8 → 0 ≤ T (3 + j)) (hn0 : -9223372036854775808 ≤ now + T 1) (hn1 : now + T 1 ≤ 9223372036854775807) (hc : (min (max cost 1) (T 2)) ≤ 9223372036854775807) : Ctr Tryd.prog B 16 [.int .i64 id, tV T, .int .i64 now, .int .i64 cost, .slice l.oad l.l.length l.c] [K] (fun v S => ∃ x : Arr Sec, (x.l = secs T (min (max cost 1) (T 2)) 0 0 l.l ∧ x.Own) ∧ v = .agg #[.int .i64 id, .int .i64 now, .int .i64 (now + T 1), .int .i64 (min (max cost 1) (T 2)), .int .i64 0, .slice x.oad x.l.length x.c] ∧ S = [row (.slice x.oad x.l.length x.c) 123 3 x.l.length (x.l.flatMap encS)] ++ [K]) := by
  refine Ctr_of_X (N := 38) Tryd.func16 rfl (by simp) rfl ?_
  intro w0 D0
  refine X_seq ?_
  refine X_region ?_
  refine XL_box .no rfl rfl rfl (fun b1 => ?_)
  refine XL_alloc .no zero_45 rfl (fun b2 => ?_)
  refine XL_then ?_
  refine X_seq ?_
  refine X_region ?_
  refine XL_det .no (D_pure rfl) rfl ?_
  refine XL_det .no (D_pure rfl) rfl ?_
  refine XL_det .no (D_pure rfl) rfl ?_
  refine XL_det .no (D_fld rfl fld_48_1 (o' := 1) rfl) rfl ?_
  refine XL_det .no (D_ldo rfl (by with_reducible repeat first | exact .here _ _ | apply Out.there | apply Out.app) tk_3 (by rfl)) rfl ?_
  refine XL_det .no (D_add rfl rfl (by omega) (by omega)) rfl ?_
  refine XL_det .no (D_pure rfl) rfl ?_
  refine XL_det .no (D_max rfl rfl) rfl ?_
  refine XL_det .no (D_fld rfl fld_48_2 (o' := 2) rfl) rfl ?_
  refine XL_det .no (D_ldo rfl (by with_reducible repeat first | exact .here _ _ | apply Out.there | apply Out.app) tk_3 (by rfl)) rfl ?_
  refine XL_det .no (D_min rfl rfl) rfl ?_
  refine XL_det .no (D_build [_, _, _, _, _, _] rfl bld_45 (by rfl)) rfl ?_
  refine XL_alloc .no zero_45 rfl (fun b3 => ?_)
  refine XL_efd .no (F_stw rfl rfl rfl (by with_reducible repeat first | exact .here _ _ | apply Out.there | apply Out.app) tk_45 rfl rfl) ?_
  refine XL_then ?_
  refine X_seq ?_
  refine X_seq ?_
  refine X_region ?_
  refine XL_det .no (D_ldso rfl (by with_reducible repeat first | exact .here _ _ | apply Out.there | apply Out.app) tk_48 rfl (by rfl)) rfl ?_
  refine XL_det .no (D_fld rfl fld_45_3 (o' := 3) rfl) rfl ?_
  refine XL_det .no (D_ldo rfl (by with_reducible repeat first | exact .here _ _ | apply Out.there | apply Out.app) tk_3 (by rfl)) rfl ?_
  refine XL_det .no (D_pure rfl) rfl ?_
  refine XL_call .no en_52 rfl (jsections T (min (max cost 1) (T 2)) l) (by with_reducible repeat first | exact .nil _ | exact .here _ _ | exact Take.self _ | apply Take.cons | apply Out.there | apply Take.skip | exact Take.pre _ _ | apply Out.app) rfl ?_
  rintro _ _ ⟨ba, bt, bc, rfl, rfl⟩
  simp only [List.cons_append, List.nil_append]
  refine XL_then ?_
  refine X_block ?_
  refine X_rownil 123 3 ?_
  refine X_range (own := [blk ba [.slice l.oad l.l.length l.c] 39, blk bt (encT T) 48, blk bc [.int .i64 (min (max cost 1) (T 2))] 3, K]) (S1 := [blk b3 [.int .i64 id, .int .i64 now, .int .i64 (now + T 1), .int .i64 (min (max cost 1) (T 2)), .int .i64 0, .slice none 0 0] 45, row (.slice none 0 0) 123 3 0 []]) rfl en_82 (jitr ba bt bc T _ l hl hT hc) (fun i S => ∃ a : Arr Sec, a.l = (secs T (min (max cost 1) (T 2)) 0 0 l.l).take i ∧ a.Own ∧ S = [blk b3 [.int .i64 id, .int .i64 now, .int .i64 (now + T 1), .int .i64 (min (max cost 1) (T 2)), .int .i64 0, .slice a.oad a.l.length a.c] 45, row (.slice a.oad a.l.length a.c) 123 3 a.l.length (a.l.flatMap encS)]) (fun c i S => False) (show Take ([blk ba [.slice l.oad l.l.length l.c] 39, blk bt (encT T) 48, blk bc [.int .i64 (min (max cost 1) (T 2))] 3, K, blk b3 [.int .i64 id, .int .i64 now, .int .i64 (now + T 1), .int .i64 (min (max cost 1) (T 2)), .int .i64 0, .slice none 0 0] 45, row (.slice none 0 0) 123 3 0 []]) _ _ from (by with_reducible repeat first | exact .nil _ | exact .here _ _ | exact Take.self _ | apply Take.cons | apply Out.there | apply Take.skip | exact Take.pre _ _ | apply Out.app)) (⟨Arr.emp, rfl, Arr.emp_own, rfl⟩) rfl (fun x hx => by obtain ⟨y, _, rfl⟩ := List.mem_map.1 hx; rfl) ?_ ?_ ?_
  · intro ly rec A2 i S2 hi hJ
    obtain ⟨a, ha, hown, rfl⟩ := hJ
    rw [List.length_map] at hi
    obtain ⟨c, hget⟩ : ∃ c, (secs T (min (max cost 1) (T 2)) 0 0 l.l)[i]? = some c := ⟨_, List.getElem?_eq_getElem hi⟩
    have h8 := secs_len (T := T) (cost := (min (max cost 1) (T 2))) l.l 0 0 (by decide)
    have hal : a.l.length = i := by rw [ha, List.length_take]; omega
    rw [show ((secs T (min (max cost 1) (T 2)) 0 0 l.l).map fun s => [secV s]).getD i [] = [secV c] from by simp [List.getD, hget]]
    refine X_region ?_
    refine XL_alloc .no zero_123 rfl (fun b4 => ?_)
    refine XL_efd .no (F_stw rfl rfl rfl (by with_reducible repeat first | exact .here _ _ | apply Out.there | apply Out.app) tk_123 rfl rfl) ?_
    refine XL_nil ?_
    refine ⟨rfl, _, _, .cons (by with_reducible repeat first | exact .here _ _ | apply Out.there | apply Out.app) (Take.self _), fun rec2 => ?_⟩
    refine X_block ?_
    refine X_region ?_
    refine XL_det .no (D_fld rfl fld_45_5 (o' := 5) rfl) rfl ?_
    refine XL_det .no (D_ldo rfl (by with_reducible repeat first | exact .here _ _ | apply Out.there | apply Out.app) tk_39 (by rfl)) rfl ?_
    refine XL_det .no (D_ldso rfl (by with_reducible repeat first | exact .here _ _ | apply Out.there | apply Out.app) tk_123 rfl (by rfl)) rfl ?_
    refine XL_bslice (cs := encS c) .no rfl slt_39 (by decide) (by decide) (by rfl) (by rfl) rfl rfl (fun b5 => ?_)
    refine XL_append (K := blk b5 (encS c) 123) (news := encS c) .no rfl rfl slt_39 (by with_reducible repeat first | exact .here _ _ | apply Out.there | apply Out.app) (by with_reducible repeat first | exact .here _ _ | apply Out.there | apply Out.app) (Rd_blk0) (by rfl) (by simp [Value.oneCell']) (by unfold maxLen; omega) (by omega) rfl (fun v2 hv2 => ?_)
    rw [flat_app]
    refine XL_learn (fun w h => row_arr (l := a.l ++ [c]) (enc := encS) h (by with_reducible repeat first | exact .here _ _ | apply Out.there | apply Out.app) (by simp)) ?_
    rintro ⟨a2, ha2, hown2, rfl⟩
    rw [show a.l.length + 1 = a2.l.length from by rw [ha2]; simp, ← ha2]
    refine XL_det .no (D_fld rfl fld_45_5 (o' := 5) rfl) rfl ?_
    refine XL_efd .no (F_stl rfl rfl rfl (by with_reducible repeat first | exact .here _ _ | apply Out.there | apply Out.app) tk_39 (by repeat first | exact .zero _ _ _ | apply SetL.succ)) ?_
    refine XL_nil ?_
    refine inBlk_normal ?_
    exact ⟨[blk b3 [.int .i64 id, .int .i64 now, .int .i64 (now + T 1), .int .i64 (min (max cost 1) (T 2)), .int .i64 0, .slice a2.oad a2.l.length a2.c] 45, row (.slice a2.oad a2.l.length a2.c) 123 3 a2.l.length (a2.l.flatMap encS)], _, (by with_reducible repeat first | exact .nil _ | exact .here _ _ | exact Take.self _ | apply Take.cons | apply Out.there | apply Take.skip | exact Take.pre _ _ | apply Out.app), ⟨a2, by rw [ha2, ha, List.take_add_one, hget]; rfl, hown2, rfl⟩⟩
  · intro dd0 S2 hJ
    obtain ⟨a, ha, hown, rfl⟩ := hJ
    rw [List.length_map, List.take_length] at ha
    simp only [List.cons_append, List.nil_append]
    refine inBlk_normal ?_
    refine thenX_normal ?_
    refine X_seq ?_
    refine X_region ?_
    refine XL_det .no (D_ldso rfl (by with_reducible repeat first | exact .here _ _ | apply Out.there | apply Out.app) tk_45 rfl (by rfl)) rfl ?_
    refine XL_efd .no (F_stw rfl rfl rfl (by with_reducible repeat first | exact .here _ _ | apply Out.there | apply Out.app) tk_45 rfl rfl) ?_
    refine XL_then ?_
    refine X_ret ?_
    refine ret_ok (show Take [dfr dd0] _ _ from (by with_reducible repeat first | exact .nil _ | exact .here _ _ | exact Take.self _ | apply Take.cons | apply Out.there | apply Take.skip | exact Take.pre _ _ | apply Out.app)) (res_cell rfl rfl (by with_reducible repeat first | exact .here _ _ | apply Out.there | apply Out.app) tk_45 (by rfl)) ?_
    exact ⟨[row (.slice a.oad a.l.length a.c) 123 3 a.l.length (a.l.flatMap encS), K], ⟨a, ⟨ha, hown⟩, rfl, rfl⟩, _, (by with_reducible repeat first | exact .nil _ | exact .here _ _ | exact Take.self _ | apply Take.cons | apply Out.there | apply Take.skip | exact Take.pre _ _ | apply Out.app)⟩
  · intro dd0 c i S2 hi h
    exact h.elim


def takesP (d : Int) (c : Sec) : Bool := decide (c.2.1 ≤ d) && decide (d < c.2.2)
def holdsP (d : Int) (c : Sec) : Bool := decide (c.2.1 < d) && decide (d < c.2.2)
def resOf : Option Sec → Int
  | some c => c.1
  | none => -1
theorem find_t {l : List Sec} {p : Sec → Bool} {i : Nat} {s : Sec} (h : l[i]? = some s) (ht : (l.take i).find? p = none) (hp : p s = true) : l.find? p = some s := by
  have hi := (List.getElem?_eq_some_iff.1 h).1
  have e : l = l.take i ++ s :: l.drop (i + 1) := by
    rw [← show l[i] = s from by rw [List.getElem?_eq_getElem hi] at h; exact Option.some.inj h, ← List.drop_eq_getElem_cons hi, List.take_append_drop]
  rw [e, List.find?_append, ht, List.find?_cons, hp]; rfl
theorem find_n {l : List Sec} {p : Sec → Bool} {i : Nat} {s : Sec} (h : l[i]? = some s) (ht : (l.take i).find? p = none) (hp : p s = false) : (l.take (i + 1)).find? p = none := by
  rw [List.take_add_one, h, List.find?_append, ht]; simp [hp]
theorem find_e {l : List Sec} {p : Sec → Bool} {i : Nat} (hi : l.length ≤ i) (ht : (l.take i).find? p = none) : l.find? p = none := by
  rwa [List.take_of_length_le hi] at ht
abbrev jobV (id now dl cost done : Int) (a : Arr Sec) : Value := .agg #[.int .i64 id, .int .i64 now, .int .i64 dl, .int .i64 cost, .int .i64 done, .slice a.oad a.l.length a.c]

theorem jtakes (id now dl cost done : Int) (a : Arr Sec) (ha : Rd K a.ad (a.l.flatMap encS)) : Ctr Tryd.prog B 55 [jobV id now dl cost done a] [K] (fun v S => v = .int .i64 (resOf (a.l.find? (takesP done))) ∧ S = [K]) := by
  refine Ctr_of_X (N := 27) Tryd.func55 rfl (by simp) rfl ?_
  intro w0 D0
  refine X_seq ?_
  refine X_region ?_
  refine XL_box .no rfl rfl rfl (fun b1 => ?_)
  refine XL_det .no (D_pure rfl) rfl ?_
  refine XL_then ?_
  refine X_seq ?_
  refine X_seq ?_
  refine X_region ?_
  refine XL_det .no (D_fld rfl fld_45_5 (o' := 5) rfl) rfl ?_
  refine XL_det .no (D_ldo rfl (by with_reducible repeat first | exact .here _ _ | apply Out.there | apply Out.app) tk_39 (by rfl)) rfl ?_
  refine XL_det .no (D_len rfl rfl slc_39) rfl ?_
  refine XL_det .no (D_pure rfl) rfl ?_
  refine XL_then ?_
  refine X_block ?_
  refine X_loop (α := Nat) (fun i => i ≤ a.l.length ∧ (a.l.take i).find? (takesP done) = none) (fun i => [(8, .int .i64 (i : Int)), (1, .pointer (some ⟨b1, 0, none⟩)), (6, .slice a.oad a.l.length a.c), (7, .int .i64 (a.l.length : Int))]) (fun i => [blk b1 [.int .i64 id, .int .i64 now, .int .i64 dl, .int .i64 cost, .int .i64 done, .slice a.oad a.l.length a.c] 45, K]) (fun i => a.l.length - i) 0 ?_ (by refine ⟨?_, ?_, ?_, ?_, trivial⟩ <;> rfl) (by with_reducible repeat first | exact .nil _ | exact .here _ _ | exact Take.self _ | apply Take.cons | apply Out.there | apply Take.skip | exact Take.pre _ _ | apply Out.app) ?_
  · exact ⟨Nat.zero_le _, rfl⟩
  · rintro i ⟨hi, hq⟩
    have hsm := a.small
    refine X_seq ?_
    refine X_region ?_
    refine XL_det .no (D_pure rfl) rfl ?_
    refine XL_then ?_
    refine X_seq ?_
    refine X_cond rfl (fun h1 => ?_) (fun h1 => ?_)
    · try simp only [decide_eq_true_eq, decide_eq_false_iff_not, Bool.not_eq_true', Bool.not_eq_false', beq_iff_eq, bne_iff_ne, beq_eq_false_iff_ne, bne_eq_false_iff_eq, Int.not_lt, Int.not_le, gt_iff_lt, ge_iff_le, ne_eq] at h1
      obtain ⟨x, hx⟩ : ∃ x, a.l[i]? = some x := ⟨_, List.getElem?_eq_getElem (by omega)⟩
      refine X_skip ?_
      refine thenX_normal ?_
      refine X_seq ?_
      refine X_block ?_
      refine X_seq ?_
      refine X_region ?_
      refine XL_det .no (D_idxSo rfl rfl slc_39 (a).nil0 rfl (by omega) rfl) rfl ?_
      refine XL_det .no (D_els (enc := encS) (sz := 3) (i := i) (fun _ => rfl) rfl (by with_reducible repeat first | exact .here _ _ | apply Out.there | apply Out.app) ha tk_123 hx) rfl ?_
      refine XL_alloc .no zero_123 rfl (fun b2 => ?_)
      refine XL_efd .no (F_stw rfl rfl rfl (by with_reducible repeat first | exact .here _ _ | apply Out.there | apply Out.app) tk_123 rfl rfl) ?_
      refine XL_then ?_
      refine X_seq ?_
      refine X_region ?_
      refine XL_det .no (D_fld rfl fld_123_1 (o' := 1) rfl) rfl ?_
      refine XL_det .no (D_ldo rfl (by with_reducible repeat first | exact .here _ _ | apply Out.there | apply Out.app) tk_3 (by rfl)) rfl ?_
      refine XL_det .no (D_fld rfl fld_45_4 (o' := 4) rfl) rfl ?_
      refine XL_det .no (D_ldo rfl (by with_reducible repeat first | exact .here _ _ | apply Out.there | apply Out.app) tk_3 (by rfl)) rfl ?_
      refine XL_det .no (D_pure rfl) rfl ?_
      refine XL_det .no (D_pure rfl) rfl ?_
      refine XL_split (t := 17) rfl (fun h2 => ?_) (fun h2 => ?_)
      · try simp only [decide_eq_true_eq, decide_eq_false_iff_not, Bool.not_eq_true', Bool.not_eq_false', beq_iff_eq, bne_iff_ne, beq_eq_false_iff_ne, bne_eq_false_iff_eq, Int.not_lt, Int.not_le, gt_iff_lt, ge_iff_le, ne_eq] at h2
        refine XL_det (.yes 17 rfl rfl rfl) (D_fld rfl fld_45_4 (o' := 4) rfl) rfl ?_
        refine XL_det (.yes 17 rfl rfl rfl) (D_ldo rfl (by with_reducible repeat first | exact .here _ _ | apply Out.there | apply Out.app) tk_3 (by rfl)) rfl ?_
        refine XL_det (.yes 17 rfl rfl rfl) (D_fld rfl fld_123_2 (o' := 2) rfl) rfl ?_
        refine XL_det (.yes 17 rfl rfl rfl) (D_ldo rfl (by with_reducible repeat first | exact .here _ _ | apply Out.there | apply Out.app) tk_3 (by rfl)) rfl ?_
        refine XL_det (.yes 17 rfl rfl rfl) (D_pure rfl) rfl ?_
        refine XL_det .no (D_pure rfl) rfl ?_
        refine XL_then ?_
        refine X_cond rfl (fun h3 => ?_) (fun h3 => ?_)
        · try simp only [decide_eq_true_eq, decide_eq_false_iff_not, Bool.not_eq_true', Bool.not_eq_false', beq_iff_eq, bne_iff_ne, beq_eq_false_iff_ne, bne_eq_false_iff_eq, Int.not_lt, Int.not_le, gt_iff_lt, ge_iff_le, ne_eq] at h3
          refine X_seq ?_
          refine X_region ?_
          refine XL_det .no (D_fld rfl fld_123_0 (o' := 0) rfl) rfl ?_
          refine XL_det .no (D_ldo rfl (by with_reducible repeat first | exact .here _ _ | apply Out.there | apply Out.app) tk_3 (by rfl)) rfl ?_
          refine XL_det .no (D_pure rfl) rfl ?_
          refine XL_then ?_
          refine X_ret ?_
          refine inBlk_ret ?_
          refine thenX_ret ?_
          refine loopQ_ret ?_
          refine inBlk_ret ?_
          refine thenX_ret ?_
          refine ret_ok (.nil _) (res_tmp rfl rfl) ?_
          exact ⟨_, ⟨by rw [find_t hx hq (by simp [takesP]; omega)]; rfl, rfl⟩, _, (by with_reducible repeat first | exact .nil _ | exact .here _ _ | exact Take.self _ | apply Take.cons | apply Out.there | apply Take.skip | exact Take.pre _ _ | apply Out.app)⟩
        · try simp only [decide_eq_true_eq, decide_eq_false_iff_not, Bool.not_eq_true', Bool.not_eq_false', beq_iff_eq, bne_iff_ne, beq_eq_false_iff_ne, bne_eq_false_iff_eq, Int.not_lt, Int.not_le, gt_iff_lt, ge_iff_le, ne_eq] at h3
          refine X_skip ?_
          refine inBlk_normal ?_
          refine thenX_normal ?_
          refine X_region ?_
          refine XL_det .no (D_add rfl rfl (by omega) (by omega)) rfl ?_
          refine XL_det .no (D_pure rfl) rfl ?_
          refine XL_nil ?_
          refine loopQ_next (i + 1) ?_ ?_ ?_ ?_
          · exact ⟨by omega, find_n hx hq (by simp [takesP, h2]; omega)⟩
          · omega
          · refine ⟨?_, ?_, ?_, ?_, trivial⟩ <;> rfl
          · exact ⟨_, (by with_reducible repeat first | exact .nil _ | exact .here _ _ | exact Take.self _ | apply Take.cons | apply Out.there | apply Take.skip | exact Take.pre _ _ | apply Out.app)⟩
      · try simp only [decide_eq_true_eq, decide_eq_false_iff_not, Bool.not_eq_true', Bool.not_eq_false', beq_iff_eq, bne_iff_ne, beq_eq_false_iff_ne, bne_eq_false_iff_eq, Int.not_lt, Int.not_le, gt_iff_lt, ge_iff_le, ne_eq] at h2
        refine XL_skip 17 rfl rfl rfl rfl rfl ?_
        refine XL_skip 17 rfl rfl rfl rfl rfl ?_
        refine XL_skip 17 rfl rfl rfl rfl rfl ?_
        refine XL_skip 17 rfl rfl rfl rfl rfl ?_
        refine XL_skip 17 rfl rfl rfl rfl rfl ?_
        refine XL_det .no (D_pure rfl) rfl ?_
        refine XL_then ?_
        refine X_cond_f rfl rfl ?_
        refine X_skip ?_
        refine inBlk_normal ?_
        refine thenX_normal ?_
        refine X_region ?_
        refine XL_det .no (D_add rfl rfl (by omega) (by omega)) rfl ?_
        refine XL_det .no (D_pure rfl) rfl ?_
        refine XL_nil ?_
        refine loopQ_next (i + 1) ?_ ?_ ?_ ?_
        · exact ⟨by omega, find_n hx hq (by simp [takesP]; omega)⟩
        · omega
        · refine ⟨?_, ?_, ?_, ?_, trivial⟩ <;> rfl
        · exact ⟨_, (by with_reducible repeat first | exact .nil _ | exact .here _ _ | exact Take.self _ | apply Take.cons | apply Out.there | apply Take.skip | exact Take.pre _ _ | apply Out.app)⟩
    · try simp only [decide_eq_true_eq, decide_eq_false_iff_not, Bool.not_eq_true', Bool.not_eq_false', beq_iff_eq, bne_iff_ne, beq_eq_false_iff_ne, bne_eq_false_iff_eq, Int.not_lt, Int.not_le, gt_iff_lt, ge_iff_le, ne_eq] at h1
      refine X_exit ?_
      refine thenX_exit ?_
      refine loopQ_exit ?_
      refine inBlk_here ?_
      refine thenX_normal ?_
      refine X_seq ?_
      refine X_region ?_
      refine XL_det .no (D_pure rfl) rfl ?_
      refine XL_then ?_
      refine X_ret ?_
      refine ret_ok (.nil _) (res_tmp rfl rfl) ?_
      exact ⟨_, ⟨by rw [find_e (by omega) hq]; rfl, rfl⟩, _, (by with_reducible repeat first | exact .nil _ | exact .here _ _ | exact Take.self _ | apply Take.cons | apply Out.there | apply Take.skip | exact Take.pre _ _ | apply Out.app)⟩

theorem jholds (id now dl cost done : Int) (a : Arr Sec) (ha : Rd K a.ad (a.l.flatMap encS)) : Ctr Tryd.prog B 54 [jobV id now dl cost done a] [K] (fun v S => v = .int .i64 (resOf (a.l.find? (holdsP done))) ∧ S = [K]) := by
  refine Ctr_of_X (N := 27) Tryd.func54 rfl (by simp) rfl ?_
  intro w0 D0
  refine X_seq ?_
  refine X_region ?_
  refine XL_box .no rfl rfl rfl (fun b1 => ?_)
  refine XL_det .no (D_pure rfl) rfl ?_
  refine XL_then ?_
  refine X_seq ?_
  refine X_seq ?_
  refine X_region ?_
  refine XL_det .no (D_fld rfl fld_45_5 (o' := 5) rfl) rfl ?_
  refine XL_det .no (D_ldo rfl (by with_reducible repeat first | exact .here _ _ | apply Out.there | apply Out.app) tk_39 (by rfl)) rfl ?_
  refine XL_det .no (D_len rfl rfl slc_39) rfl ?_
  refine XL_det .no (D_pure rfl) rfl ?_
  refine XL_then ?_
  refine X_block ?_
  refine X_loop (α := Nat) (fun i => i ≤ a.l.length ∧ (a.l.take i).find? (holdsP done) = none) (fun i => [(8, .int .i64 (i : Int)), (1, .pointer (some ⟨b1, 0, none⟩)), (6, .slice a.oad a.l.length a.c), (7, .int .i64 (a.l.length : Int))]) (fun i => [blk b1 [.int .i64 id, .int .i64 now, .int .i64 dl, .int .i64 cost, .int .i64 done, .slice a.oad a.l.length a.c] 45, K]) (fun i => a.l.length - i) 0 ?_ (by refine ⟨?_, ?_, ?_, ?_, trivial⟩ <;> rfl) (by with_reducible repeat first | exact .nil _ | exact .here _ _ | exact Take.self _ | apply Take.cons | apply Out.there | apply Take.skip | exact Take.pre _ _ | apply Out.app) ?_
  · exact ⟨Nat.zero_le _, rfl⟩
  · rintro i ⟨hi, hq⟩
    have hsm := a.small
    refine X_seq ?_
    refine X_region ?_
    refine XL_det .no (D_pure rfl) rfl ?_
    refine XL_then ?_
    refine X_seq ?_
    refine X_cond rfl (fun h1 => ?_) (fun h1 => ?_)
    · try simp only [decide_eq_true_eq, decide_eq_false_iff_not, Bool.not_eq_true', Bool.not_eq_false', beq_iff_eq, bne_iff_ne, beq_eq_false_iff_ne, bne_eq_false_iff_eq, Int.not_lt, Int.not_le, gt_iff_lt, ge_iff_le, ne_eq] at h1
      obtain ⟨x, hx⟩ : ∃ x, a.l[i]? = some x := ⟨_, List.getElem?_eq_getElem (by omega)⟩
      refine X_skip ?_
      refine thenX_normal ?_
      refine X_seq ?_
      refine X_block ?_
      refine X_seq ?_
      refine X_region ?_
      refine XL_det .no (D_idxSo rfl rfl slc_39 (a).nil0 rfl (by omega) rfl) rfl ?_
      refine XL_det .no (D_els (enc := encS) (sz := 3) (i := i) (fun _ => rfl) rfl (by with_reducible repeat first | exact .here _ _ | apply Out.there | apply Out.app) ha tk_123 hx) rfl ?_
      refine XL_alloc .no zero_123 rfl (fun b2 => ?_)
      refine XL_efd .no (F_stw rfl rfl rfl (by with_reducible repeat first | exact .here _ _ | apply Out.there | apply Out.app) tk_123 rfl rfl) ?_
      refine XL_then ?_
      refine X_seq ?_
      refine X_region ?_
      refine XL_det .no (D_fld rfl fld_123_1 (o' := 1) rfl) rfl ?_
      refine XL_det .no (D_ldo rfl (by with_reducible repeat first | exact .here _ _ | apply Out.there | apply Out.app) tk_3 (by rfl)) rfl ?_
      refine XL_det .no (D_fld rfl fld_45_4 (o' := 4) rfl) rfl ?_
      refine XL_det .no (D_ldo rfl (by with_reducible repeat first | exact .here _ _ | apply Out.there | apply Out.app) tk_3 (by rfl)) rfl ?_
      refine XL_det .no (D_pure rfl) rfl ?_
      refine XL_det .no (D_pure rfl) rfl ?_
      refine XL_split (t := 17) rfl (fun h2 => ?_) (fun h2 => ?_)
      · try simp only [decide_eq_true_eq, decide_eq_false_iff_not, Bool.not_eq_true', Bool.not_eq_false', beq_iff_eq, bne_iff_ne, beq_eq_false_iff_ne, bne_eq_false_iff_eq, Int.not_lt, Int.not_le, gt_iff_lt, ge_iff_le, ne_eq] at h2
        refine XL_det (.yes 17 rfl rfl rfl) (D_fld rfl fld_45_4 (o' := 4) rfl) rfl ?_
        refine XL_det (.yes 17 rfl rfl rfl) (D_ldo rfl (by with_reducible repeat first | exact .here _ _ | apply Out.there | apply Out.app) tk_3 (by rfl)) rfl ?_
        refine XL_det (.yes 17 rfl rfl rfl) (D_fld rfl fld_123_2 (o' := 2) rfl) rfl ?_
        refine XL_det (.yes 17 rfl rfl rfl) (D_ldo rfl (by with_reducible repeat first | exact .here _ _ | apply Out.there | apply Out.app) tk_3 (by rfl)) rfl ?_
        refine XL_det (.yes 17 rfl rfl rfl) (D_pure rfl) rfl ?_
        refine XL_det .no (D_pure rfl) rfl ?_
        refine XL_then ?_
        refine X_cond rfl (fun h3 => ?_) (fun h3 => ?_)
        · try simp only [decide_eq_true_eq, decide_eq_false_iff_not, Bool.not_eq_true', Bool.not_eq_false', beq_iff_eq, bne_iff_ne, beq_eq_false_iff_ne, bne_eq_false_iff_eq, Int.not_lt, Int.not_le, gt_iff_lt, ge_iff_le, ne_eq] at h3
          refine X_seq ?_
          refine X_region ?_
          refine XL_det .no (D_fld rfl fld_123_0 (o' := 0) rfl) rfl ?_
          refine XL_det .no (D_ldo rfl (by with_reducible repeat first | exact .here _ _ | apply Out.there | apply Out.app) tk_3 (by rfl)) rfl ?_
          refine XL_det .no (D_pure rfl) rfl ?_
          refine XL_then ?_
          refine X_ret ?_
          refine inBlk_ret ?_
          refine thenX_ret ?_
          refine loopQ_ret ?_
          refine inBlk_ret ?_
          refine thenX_ret ?_
          refine ret_ok (.nil _) (res_tmp rfl rfl) ?_
          exact ⟨_, ⟨by rw [find_t hx hq (by simp [holdsP]; omega)]; rfl, rfl⟩, _, (by with_reducible repeat first | exact .nil _ | exact .here _ _ | exact Take.self _ | apply Take.cons | apply Out.there | apply Take.skip | exact Take.pre _ _ | apply Out.app)⟩
        · try simp only [decide_eq_true_eq, decide_eq_false_iff_not, Bool.not_eq_true', Bool.not_eq_false', beq_iff_eq, bne_iff_ne, beq_eq_false_iff_ne, bne_eq_false_iff_eq, Int.not_lt, Int.not_le, gt_iff_lt, ge_iff_le, ne_eq] at h3
          refine X_skip ?_
          refine inBlk_normal ?_
          refine thenX_normal ?_
          refine X_region ?_
          refine XL_det .no (D_add rfl rfl (by omega) (by omega)) rfl ?_
          refine XL_det .no (D_pure rfl) rfl ?_
          refine XL_nil ?_
          refine loopQ_next (i + 1) ?_ ?_ ?_ ?_
          · exact ⟨by omega, find_n hx hq (by simp [holdsP, h2]; omega)⟩
          · omega
          · refine ⟨?_, ?_, ?_, ?_, trivial⟩ <;> rfl
          · exact ⟨_, (by with_reducible repeat first | exact .nil _ | exact .here _ _ | exact Take.self _ | apply Take.cons | apply Out.there | apply Take.skip | exact Take.pre _ _ | apply Out.app)⟩
      · try simp only [decide_eq_true_eq, decide_eq_false_iff_not, Bool.not_eq_true', Bool.not_eq_false', beq_iff_eq, bne_iff_ne, beq_eq_false_iff_ne, bne_eq_false_iff_eq, Int.not_lt, Int.not_le, gt_iff_lt, ge_iff_le, ne_eq] at h2
        refine XL_skip 17 rfl rfl rfl rfl rfl ?_
        refine XL_skip 17 rfl rfl rfl rfl rfl ?_
        refine XL_skip 17 rfl rfl rfl rfl rfl ?_
        refine XL_skip 17 rfl rfl rfl rfl rfl ?_
        refine XL_skip 17 rfl rfl rfl rfl rfl ?_
        refine XL_det .no (D_pure rfl) rfl ?_
        refine XL_then ?_
        refine X_cond_f rfl rfl ?_
        refine X_skip ?_
        refine inBlk_normal ?_
        refine thenX_normal ?_
        refine X_region ?_
        refine XL_det .no (D_add rfl rfl (by omega) (by omega)) rfl ?_
        refine XL_det .no (D_pure rfl) rfl ?_
        refine XL_nil ?_
        refine loopQ_next (i + 1) ?_ ?_ ?_ ?_
        · exact ⟨by omega, find_n hx hq (by simp [holdsP]; omega)⟩
        · omega
        · refine ⟨?_, ?_, ?_, ?_, trivial⟩ <;> rfl
        · exact ⟨_, (by with_reducible repeat first | exact .nil _ | exact .here _ _ | exact Take.self _ | apply Take.cons | apply Out.there | apply Take.skip | exact Take.pre _ _ | apply Out.app)⟩
    · try simp only [decide_eq_true_eq, decide_eq_false_iff_not, Bool.not_eq_true', Bool.not_eq_false', beq_iff_eq, bne_iff_ne, beq_eq_false_iff_ne, bne_eq_false_iff_eq, Int.not_lt, Int.not_le, gt_iff_lt, ge_iff_le, ne_eq] at h1
      refine X_exit ?_
      refine thenX_exit ?_
      refine loopQ_exit ?_
      refine inBlk_here ?_
      refine thenX_normal ?_
      refine X_seq ?_
      refine X_region ?_
      refine XL_det .no (D_pure rfl) rfl ?_
      refine XL_then ?_
      refine X_ret ?_
      refine ret_ok (.nil _) (res_tmp rfl rfl) ?_
      exact ⟨_, ⟨by rw [find_e (by omega) hq]; rfl, rfl⟩, _, (by with_reducible repeat first | exact .nil _ | exact .here _ _ | exact Take.self _ | apply Take.cons | apply Out.there | apply Take.skip | exact Take.pre _ _ | apply Out.app)⟩

theorem jover (id now dl cost done : Int) (a : Arr Sec) : Ctr Tryd.prog B 50 [jobV id now dl cost done a] [] (fun v S => v = .bool (decide (done ≥ cost)) ∧ S = []) := by
  refine Ctr_of_X (N := 8) Tryd.func50 rfl (by simp) rfl ?_
  intro w0 D0
  refine X_seq ?_
  refine X_region ?_
  refine XL_box .no rfl rfl rfl (fun b1 => ?_)
  refine XL_det .no (D_pure rfl) rfl ?_
  refine XL_then ?_
  refine X_seq ?_
  refine X_region ?_
  refine XL_det .no (D_fld rfl fld_45_4 (o' := 4) rfl) rfl ?_
  refine XL_det .no (D_ldo rfl (by with_reducible repeat first | exact .here _ _ | apply Out.there | apply Out.app) tk_3 (by rfl)) rfl ?_
  refine XL_det .no (D_fld rfl fld_45_3 (o' := 3) rfl) rfl ?_
  refine XL_det .no (D_ldo rfl (by with_reducible repeat first | exact .here _ _ | apply Out.there | apply Out.app) tk_3 (by rfl)) rfl ?_
  refine XL_det .no (D_pure rfl) rfl ?_
  refine XL_det .no (D_pure rfl) rfl ?_
  refine XL_then ?_
  refine X_ret ?_
  refine ret_ok (.nil _) (res_tmp rfl rfl) ?_
  exact ⟨_, ⟨rfl, rfl⟩, _, (by with_reducible repeat first | exact .nil _ | exact .here _ _ | exact Take.self _ | apply Take.cons | apply Out.there | apply Take.skip | exact Take.pre _ _ | apply Out.app)⟩

theorem jlate (id now dl cost done : Int) (a : Arr Sec) (t : Int) : Ctr Tryd.prog B 57 [jobV id now dl cost done a, .int .i64 t] [] (fun v S => v = .bool (decide (t > dl)) ∧ S = []) := by
  refine Ctr_of_X (N := 9) Tryd.func57 rfl (by simp) rfl ?_
  intro w0 D0
  refine X_seq ?_
  refine X_region ?_
  refine XL_box .no rfl rfl rfl (fun b1 => ?_)
  refine XL_det .no (D_pure rfl) rfl ?_
  refine XL_then ?_
  refine X_seq ?_
  refine X_region ?_
  refine XL_det .no (D_pure rfl) rfl ?_
  refine XL_det .no (D_fld rfl fld_45_2 (o' := 2) rfl) rfl ?_
  refine XL_det .no (D_ldo rfl (by with_reducible repeat first | exact .here _ _ | apply Out.there | apply Out.app) tk_3 (by rfl)) rfl ?_
  refine XL_det .no (D_pure rfl) rfl ?_
  refine XL_det .no (D_pure rfl) rfl ?_
  refine XL_then ?_
  refine X_ret ?_
  refine ret_ok (.nil _) (res_tmp rfl rfl) ?_
  exact ⟨_, ⟨rfl, rfl⟩, _, (by with_reducible repeat first | exact .nil _ | exact .here _ _ | exact Take.self _ | apply Take.cons | apply Out.there | apply Take.skip | exact Take.pre _ _ | apply Out.app)⟩

theorem jwork (b : Nat) (id now dl cost done : Int) (a : Arr Sec) (h0 : 0 ≤ done) (h1 : done ≤ 4611686018427387904) : Ctr Tryd.prog B 56 [.pointer (some ⟨b, 0, none⟩)] [blk b [.int .i64 id, .int .i64 now, .int .i64 dl, .int .i64 cost, .int .i64 done, .slice a.oad a.l.length a.c] 45] (fun v S => v = .bool (decide (min (done + 1) cost ≥ cost)) ∧ S = [blk b [.int .i64 id, .int .i64 now, .int .i64 dl, .int .i64 cost, .int .i64 (min (done + 1) cost), .slice a.oad a.l.length a.c] 45]) := by
  refine Ctr_of_X (N := 20) Tryd.func56 rfl (by simp) rfl ?_
  intro w0 D0
  refine X_seq ?_
  refine X_region ?_
  refine XL_det .no (D_pure rfl) rfl ?_
  refine XL_then ?_
  refine X_seq ?_
  refine X_draw _ mixed (Take.self _) ?_
  refine XA_detp 0 rfl (by kernel_rfl) (by kernel_rfl) (by kernel_rfl) (fun _ _ _ _ h => h) .no (D_pureP rfl) rfl ?_
  refine XA_detp 1 rfl (by kernel_rfl) (by kernel_rfl) (by kernel_rfl) (fun _ _ _ _ h => h) .no (D_pureP rfl) rfl ?_
  refine XA_detp 2 rfl (by kernel_rfl) (by kernel_rfl) (by kernel_rfl) (fun _ _ _ _ h => h) .no (D_nilckP rfl) rfl ?_
  refine XA_detp 3 rfl (by kernel_rfl) (by kernel_rfl) (by kernel_rfl) (fun _ _ _ _ h => h) .no (D_fldP rfl fld_45_4 (o' := 4) rfl) rfl ?_
  refine XA_det 4 rfl (by kernel_rfl) (by kernel_rfl) (by kernel_rfl) (by kernel_rfl) (fun _ _ _ _ h => h) .no (D_ldo rfl (by with_reducible repeat first | exact .here _ _ | apply Out.there | apply Out.app) tk_3 (by rfl)) rfl ?_
  refine XA_det 5 rfl (by kernel_rfl) (by kernel_rfl) (by kernel_rfl) (by kernel_rfl) (fun _ _ _ _ h => h) .no (D_add rfl rfl (by omega) (by omega)) rfl ?_
  refine XA_detp 6 rfl (by kernel_rfl) (by kernel_rfl) (by kernel_rfl) (fun _ _ _ _ h => h) .no (D_pureP rfl) rfl ?_
  refine XA_detp 7 rfl (by kernel_rfl) (by kernel_rfl) (by kernel_rfl) (fun _ _ _ _ h => h) .no (D_nilckP rfl) rfl ?_
  refine XA_detp 8 rfl (by kernel_rfl) (by kernel_rfl) (by kernel_rfl) (fun _ _ _ _ h => h) .no (D_fldP rfl fld_45_3 (o' := 3) rfl) rfl ?_
  refine XA_det 9 rfl (by kernel_rfl) (by kernel_rfl) (by kernel_rfl) (by kernel_rfl) (fun _ _ _ _ h => h) .no (D_ldo rfl (by with_reducible repeat first | exact .here _ _ | apply Out.there | apply Out.app) tk_3 (by rfl)) rfl ?_
  refine XA_det 10 rfl (by kernel_rfl) (by kernel_rfl) (by kernel_rfl) (by kernel_rfl) (fun _ _ _ _ h => h) .no (D_min rfl rfl) rfl ?_
  refine XA_detp 11 rfl (by kernel_rfl) (by kernel_rfl) (by kernel_rfl) (fun _ _ _ _ h => h) .no (D_nilckP rfl) rfl ?_
  refine XA_detp 12 rfl (by kernel_rfl) (by kernel_rfl) (by kernel_rfl) (fun _ _ _ _ h => h) .no (D_fldP rfl fld_45_4 (o' := 4) rfl) rfl ?_
  refine XA_one 13 (by kernel_rfl) ?_
  refine XO_efd rfl .no (by with_reducible repeat first | exact .nil _ | apply App.cons) (F_stl rfl rfl rfl (by with_reducible repeat first | exact .here _ _ | apply Out.there | apply Out.app) tk_3 (by repeat first | exact .zero _ _ _ | apply SetL.succ)) (by kernel_rfl) ?_
  refine XA_done (by kernel_rfl) ?_
  try simp only [List.cons_append, List.nil_append, List.append_nil]
  refine thenX_normal ?_
  refine X_seq ?_
  refine X_region ?_
  refine XL_det .no (D_pure rfl) rfl ?_
  refine XL_det .no (D_nilck rfl) rfl ?_
  refine XL_det .no (D_ldso rfl (by with_reducible repeat first | exact .here _ _ | apply Out.there | apply Out.app) tk_45 rfl (by rfl)) rfl ?_
  refine XL_callv .no en_50 rfl (jover id now dl cost (min (done + 1) cost) a) rfl ?_
  refine XL_det .no (D_pure rfl) rfl ?_
  refine XL_then ?_
  refine X_ret ?_
  refine ret_ok (.nil _) (res_tmp rfl rfl) ?_
  exact ⟨_, ⟨rfl, rfl⟩, _, (by with_reducible repeat first | exact .nil _ | exact .here _ _ | exact Take.self _ | apply Take.cons | apply Out.there | apply Take.skip | exact Take.pre _ _ | apply Out.app)⟩

theorem rholds (a : Arr Sec) (ha : Rd K a.ad (a.l.flatMap encS)) (d : Int) (k : Bool) : Ctr Tryd.prog B 66 [.slice a.oad a.l.length a.c, .int .i64 d, .bool k] [K] (fun v S => v = .int .i64 (resOf (a.l.find? (if k then takesP d else holdsP d))) ∧ S = [K]) := by
  refine Ctr_of_X (N := 47) Tryd.func66 rfl (by simp) rfl ?_
  intro w0 D0
  refine X_seq ?_
  refine X_region ?_
  refine XL_det .no (D_pure rfl) rfl ?_
  refine XL_then ?_
  refine X_seq ?_
  refine X_seq ?_
  refine X_region ?_
  refine XL_det .no (D_pure rfl) rfl ?_
  refine XL_then ?_
  refine X_block ?_
  refine X_loop (α := Nat) (fun i => i ≤ a.l.length ∧ (a.l.take i).find? (if k then takesP d else holdsP d) = none) (fun i => [(7, .int .i64 (i : Int)), (0, .slice a.oad a.l.length a.c), (1, .int .i64 d), (2, .bool k)]) (fun i => [K]) (fun i => a.l.length - i) 0 ?_ (by refine ⟨?_, ?_, ?_, ?_, trivial⟩ <;> rfl) (by with_reducible repeat first | exact .nil _ | exact .here _ _ | exact Take.self _ | apply Take.cons | apply Out.there | apply Take.skip | exact Take.pre _ _ | apply Out.app) ?_
  · exact ⟨Nat.zero_le _, rfl⟩
  · rintro i ⟨hi, hq⟩
    have hsm := a.small
    refine X_seq ?_
    refine X_seq ?_
    refine X_region ?_
    refine XL_det .no (D_pure rfl) rfl ?_
    refine XL_det .no (D_pure rfl) rfl ?_
    refine XL_det .no (D_len rfl rfl slc_39) rfl ?_
    refine XL_det .no (D_pure rfl) rfl ?_
    refine XL_then ?_
    refine X_cond rfl (fun h1 => ?_) (fun h1 => ?_)
    · try simp only [decide_eq_true_eq, decide_eq_false_iff_not, Bool.not_eq_true', Bool.not_eq_false', beq_iff_eq, bne_iff_ne, beq_eq_false_iff_ne, bne_eq_false_iff_eq, Int.not_lt, Int.not_le, gt_iff_lt, ge_iff_le, ne_eq] at h1
      obtain ⟨x, hx⟩ : ∃ x, a.l[i]? = some x := ⟨_, List.getElem?_eq_getElem (by omega)⟩
      refine X_skip ?_
      refine thenX_normal ?_
      refine X_seq ?_
      refine X_block ?_
      refine X_seq ?_
      refine X_region ?_
      refine XL_det .no (D_pure rfl) rfl ?_
      refine XL_det .no (D_pure rfl) rfl ?_
      refine XL_det .no (D_pure rfl) rfl ?_
      refine XL_det .no (D_idxSo rfl rfl slc_39 (a).nil0 rfl (by omega) rfl) rfl ?_
      refine XL_det .no (D_fldA rfl fld_123_1 rfl) rfl ?_
      refine XL_det .no (D_ela (enc := encS) (sz := 3) (i := i) (k := 1) (fun _ => rfl) rfl (by with_reducible repeat first | exact .here _ _ | apply Out.there | apply Out.app) ha tk_3 hx rfl) rfl ?_
      refine XL_det .no (D_pure rfl) rfl ?_
      refine XL_det .no (D_pure rfl) rfl ?_
      refine XL_split (t := 21) rfl (fun h2 => ?_) (fun h2 => ?_)
      · try simp only [decide_eq_true_eq, decide_eq_false_iff_not, Bool.not_eq_true', Bool.not_eq_false', beq_iff_eq, bne_iff_ne, beq_eq_false_iff_ne, bne_eq_false_iff_eq, Int.not_lt, Int.not_le, gt_iff_lt, ge_iff_le, ne_eq] at h2
        refine XL_skip 21 rfl rfl rfl rfl rfl ?_
        refine XL_skip 21 rfl rfl rfl rfl rfl ?_
        refine XL_skipu 23 rfl rfl rfl rfl ?_
        refine XL_skipu 23 rfl rfl rfl rfl ?_
        refine XL_skipu 23 rfl rfl rfl rfl ?_
        refine XL_skipu 23 rfl rfl rfl rfl ?_
        refine XL_skipu 23 rfl rfl rfl rfl ?_
        refine XL_skipu 23 rfl rfl rfl rfl ?_
        refine XL_skipu 23 rfl rfl rfl rfl ?_
        refine XL_skip 21 rfl rfl rfl rfl rfl ?_
        refine XL_det .no (D_pure rfl) rfl ?_
        refine XL_det .no (D_pure rfl) rfl ?_
        refine XL_det (.yes 33 rfl rfl rfl) (D_pure rfl) rfl ?_
        refine XL_det (.yes 33 rfl rfl rfl) (D_pure rfl) rfl ?_
        refine XL_det (.yes 33 rfl rfl rfl) (D_pure rfl) rfl ?_
        refine XL_det (.yes 33 rfl rfl rfl) (D_idxSo rfl rfl slc_39 (a).nil0 rfl (by omega) rfl) rfl ?_
        refine XL_det (.yes 33 rfl rfl rfl) (D_fldA rfl fld_123_2 rfl) rfl ?_
        refine XL_det (.yes 33 rfl rfl rfl) (D_ela (enc := encS) (sz := 3) (i := i) (k := 2) (fun _ => rfl) rfl (by with_reducible repeat first | exact .here _ _ | apply Out.there | apply Out.app) ha tk_3 hx rfl) rfl ?_
        refine XL_det (.yes 33 rfl rfl rfl) (D_pure rfl) rfl ?_
        refine XL_det .no (D_pure rfl) rfl ?_
        refine XL_then ?_
        refine X_cond rfl (fun h3 => ?_) (fun h3 => ?_)
        · try simp only [decide_eq_true_eq, decide_eq_false_iff_not, Bool.not_eq_true', Bool.not_eq_false', beq_iff_eq, bne_iff_ne, beq_eq_false_iff_ne, bne_eq_false_iff_eq, Int.not_lt, Int.not_le, gt_iff_lt, ge_iff_le, ne_eq] at h3
          refine X_seq ?_
          refine X_region ?_
          refine XL_det .no (D_pure rfl) rfl ?_
          refine XL_det .no (D_pure rfl) rfl ?_
          refine XL_det .no (D_idxSo rfl rfl slc_39 (a).nil0 rfl (by omega) rfl) rfl ?_
          refine XL_det .no (D_fldA rfl fld_123_0 rfl) rfl ?_
          refine XL_det .no (D_ela (enc := encS) (sz := 3) (i := i) (k := 0) (fun _ => rfl) rfl (by with_reducible repeat first | exact .here _ _ | apply Out.there | apply Out.app) ha tk_3 hx rfl) rfl ?_
          refine XL_det .no (D_pure rfl) rfl ?_
          refine XL_then ?_
          refine X_ret ?_
          refine inBlk_ret ?_
          refine thenX_ret ?_
          refine loopQ_ret ?_
          refine inBlk_ret ?_
          refine thenX_ret ?_
          refine ret_ok (.nil _) (res_tmp rfl rfl) ?_
          exact ⟨_, ⟨by rw [find_t hx hq (by cases k <;> simp_all [takesP, holdsP] <;> omega)]; rfl, rfl⟩, _, (by with_reducible repeat first | exact .nil _ | exact .here _ _ | exact Take.self _ | apply Take.cons | apply Out.there | apply Take.skip | exact Take.pre _ _ | apply Out.app)⟩
        · try simp only [decide_eq_true_eq, decide_eq_false_iff_not, Bool.not_eq_true', Bool.not_eq_false', beq_iff_eq, bne_iff_ne, beq_eq_false_iff_ne, bne_eq_false_iff_eq, Int.not_lt, Int.not_le, gt_iff_lt, ge_iff_le, ne_eq] at h3
          refine X_skip ?_
          refine inBlk_normal ?_
          refine thenX_normal ?_
          refine X_region ?_
          refine XL_det .no (D_pure rfl) rfl ?_
          refine XL_det .no (D_add rfl rfl (by omega) (by omega)) rfl ?_
          refine XL_det .no (D_pure rfl) rfl ?_
          refine XL_nil ?_
          refine loopQ_next (i + 1) ?_ ?_ ?_ ?_
          · exact ⟨by omega, find_n hx hq (by cases k <;> simp_all [takesP, holdsP] <;> omega)⟩
          · omega
          · refine ⟨?_, ?_, ?_, ?_, trivial⟩ <;> rfl
          · exact ⟨_, (by with_reducible repeat first | exact .nil _ | exact .here _ _ | exact Take.self _ | apply Take.cons | apply Out.there | apply Take.skip | exact Take.pre _ _ | apply Out.app)⟩
      · try simp only [decide_eq_true_eq, decide_eq_false_iff_not, Bool.not_eq_true', Bool.not_eq_false', beq_iff_eq, bne_iff_ne, beq_eq_false_iff_ne, bne_eq_false_iff_eq, Int.not_lt, Int.not_le, gt_iff_lt, ge_iff_le, ne_eq] at h2
        refine XL_det (.yes 21 rfl rfl rfl) (D_pure rfl) rfl ?_
        refine XL_det (.yes 21 rfl rfl rfl) (D_pure rfl) rfl ?_
        refine XL_split (t := 23) rfl (fun h4 => ?_) (fun h4 => ?_)
        · try simp only [decide_eq_true_eq, decide_eq_false_iff_not, Bool.not_eq_true', Bool.not_eq_false', beq_iff_eq, bne_iff_ne, beq_eq_false_iff_ne, bne_eq_false_iff_eq, Int.not_lt, Int.not_le, gt_iff_lt, ge_iff_le, ne_eq] at h4
          refine XL_det (.yes 23 rfl rfl rfl) (D_pure rfl) rfl ?_
          refine XL_det (.yes 23 rfl rfl rfl) (D_pure rfl) rfl ?_
          refine XL_det (.yes 23 rfl rfl rfl) (D_pure rfl) rfl ?_
          refine XL_det (.yes 23 rfl rfl rfl) (D_idxSo rfl rfl slc_39 (a).nil0 rfl (by omega) rfl) rfl ?_
          refine XL_det (.yes 23 rfl rfl rfl) (D_fldA rfl fld_123_1 rfl) rfl ?_
          refine XL_det (.yes 23 rfl rfl rfl) (D_ela (enc := encS) (sz := 3) (i := i) (k := 1) (fun _ => rfl) rfl (by with_reducible repeat first | exact .here _ _ | apply Out.there | apply Out.app) ha tk_3 hx rfl) rfl ?_
          refine XL_det (.yes 23 rfl rfl rfl) (D_pure rfl) rfl ?_
          refine XL_det (.yes 21 rfl rfl rfl) (D_pure rfl) rfl ?_
          refine XL_det .no (D_pure rfl) rfl ?_
          refine XL_det .no (D_pure rfl) rfl ?_
          refine XL_split (t := 33) rfl (fun h5 => ?_) (fun h5 => ?_)
          · try simp only [decide_eq_true_eq, decide_eq_false_iff_not, Bool.not_eq_true', Bool.not_eq_false', beq_iff_eq, bne_iff_ne, beq_eq_false_iff_ne, bne_eq_false_iff_eq, Int.not_lt, Int.not_le, gt_iff_lt, ge_iff_le, ne_eq] at h5
            refine XL_det (.yes 33 rfl rfl rfl) (D_pure rfl) rfl ?_
            refine XL_det (.yes 33 rfl rfl rfl) (D_pure rfl) rfl ?_
            refine XL_det (.yes 33 rfl rfl rfl) (D_pure rfl) rfl ?_
            refine XL_det (.yes 33 rfl rfl rfl) (D_idxSo rfl rfl slc_39 (a).nil0 rfl (by omega) rfl) rfl ?_
            refine XL_det (.yes 33 rfl rfl rfl) (D_fldA rfl fld_123_2 rfl) rfl ?_
            refine XL_det (.yes 33 rfl rfl rfl) (D_ela (enc := encS) (sz := 3) (i := i) (k := 2) (fun _ => rfl) rfl (by with_reducible repeat first | exact .here _ _ | apply Out.there | apply Out.app) ha tk_3 hx rfl) rfl ?_
            refine XL_det (.yes 33 rfl rfl rfl) (D_pure rfl) rfl ?_
            refine XL_det .no (D_pure rfl) rfl ?_
            refine XL_then ?_
            refine X_cond rfl (fun h6 => ?_) (fun h6 => ?_)
            · try simp only [decide_eq_true_eq, decide_eq_false_iff_not, Bool.not_eq_true', Bool.not_eq_false', beq_iff_eq, bne_iff_ne, beq_eq_false_iff_ne, bne_eq_false_iff_eq, Int.not_lt, Int.not_le, gt_iff_lt, ge_iff_le, ne_eq] at h6
              refine X_seq ?_
              refine X_region ?_
              refine XL_det .no (D_pure rfl) rfl ?_
              refine XL_det .no (D_pure rfl) rfl ?_
              refine XL_det .no (D_idxSo rfl rfl slc_39 (a).nil0 rfl (by omega) rfl) rfl ?_
              refine XL_det .no (D_fldA rfl fld_123_0 rfl) rfl ?_
              refine XL_det .no (D_ela (enc := encS) (sz := 3) (i := i) (k := 0) (fun _ => rfl) rfl (by with_reducible repeat first | exact .here _ _ | apply Out.there | apply Out.app) ha tk_3 hx rfl) rfl ?_
              refine XL_det .no (D_pure rfl) rfl ?_
              refine XL_then ?_
              refine X_ret ?_
              refine inBlk_ret ?_
              refine thenX_ret ?_
              refine loopQ_ret ?_
              refine inBlk_ret ?_
              refine thenX_ret ?_
              refine ret_ok (.nil _) (res_tmp rfl rfl) ?_
              exact ⟨_, ⟨by rw [find_t hx hq (by cases k <;> simp_all [takesP, holdsP] <;> omega)]; rfl, rfl⟩, _, (by with_reducible repeat first | exact .nil _ | exact .here _ _ | exact Take.self _ | apply Take.cons | apply Out.there | apply Take.skip | exact Take.pre _ _ | apply Out.app)⟩
            · try simp only [decide_eq_true_eq, decide_eq_false_iff_not, Bool.not_eq_true', Bool.not_eq_false', beq_iff_eq, bne_iff_ne, beq_eq_false_iff_ne, bne_eq_false_iff_eq, Int.not_lt, Int.not_le, gt_iff_lt, ge_iff_le, ne_eq] at h6
              refine X_skip ?_
              refine inBlk_normal ?_
              refine thenX_normal ?_
              refine X_region ?_
              refine XL_det .no (D_pure rfl) rfl ?_
              refine XL_det .no (D_add rfl rfl (by omega) (by omega)) rfl ?_
              refine XL_det .no (D_pure rfl) rfl ?_
              refine XL_nil ?_
              refine loopQ_next (i + 1) ?_ ?_ ?_ ?_
              · exact ⟨by omega, find_n hx hq (by cases k <;> simp_all [takesP, holdsP] <;> omega)⟩
              · omega
              · refine ⟨?_, ?_, ?_, ?_, trivial⟩ <;> rfl
              · exact ⟨_, (by with_reducible repeat first | exact .nil _ | exact .here _ _ | exact Take.self _ | apply Take.cons | apply Out.there | apply Take.skip | exact Take.pre _ _ | apply Out.app)⟩
          · try simp only [decide_eq_true_eq, decide_eq_false_iff_not, Bool.not_eq_true', Bool.not_eq_false', beq_iff_eq, bne_iff_ne, beq_eq_false_iff_ne, bne_eq_false_iff_eq, Int.not_lt, Int.not_le, gt_iff_lt, ge_iff_le, ne_eq] at h5
            refine XL_skip 33 rfl rfl rfl rfl rfl ?_
            refine XL_skip 33 rfl rfl rfl rfl rfl ?_
            refine XL_skip 33 rfl rfl rfl rfl rfl ?_
            refine XL_skip 33 rfl rfl rfl rfl rfl ?_
            refine XL_skip 33 rfl rfl rfl rfl rfl ?_
            refine XL_skip 33 rfl rfl rfl rfl rfl ?_
            refine XL_skip 33 rfl rfl rfl rfl rfl ?_
            refine XL_det .no (D_pure rfl) rfl ?_
            refine XL_then ?_
            refine X_cond_f rfl rfl ?_
            refine X_skip ?_
            refine inBlk_normal ?_
            refine thenX_normal ?_
            refine X_region ?_
            refine XL_det .no (D_pure rfl) rfl ?_
            refine XL_det .no (D_add rfl rfl (by omega) (by omega)) rfl ?_
            refine XL_det .no (D_pure rfl) rfl ?_
            refine XL_nil ?_
            refine loopQ_next (i + 1) ?_ ?_ ?_ ?_
            · exact ⟨by omega, find_n hx hq (by cases k <;> simp_all [takesP, holdsP] <;> omega)⟩
            · omega
            · refine ⟨?_, ?_, ?_, ?_, trivial⟩ <;> rfl
            · exact ⟨_, (by with_reducible repeat first | exact .nil _ | exact .here _ _ | exact Take.self _ | apply Take.cons | apply Out.there | apply Take.skip | exact Take.pre _ _ | apply Out.app)⟩
        · try simp only [decide_eq_true_eq, decide_eq_false_iff_not, Bool.not_eq_true', Bool.not_eq_false', beq_iff_eq, bne_iff_ne, beq_eq_false_iff_ne, bne_eq_false_iff_eq, Int.not_lt, Int.not_le, gt_iff_lt, ge_iff_le, ne_eq] at h4
          refine XL_skip 23 rfl rfl rfl rfl rfl ?_
          refine XL_skip 23 rfl rfl rfl rfl rfl ?_
          refine XL_skip 23 rfl rfl rfl rfl rfl ?_
          refine XL_skip 23 rfl rfl rfl rfl rfl ?_
          refine XL_skip 23 rfl rfl rfl rfl rfl ?_
          refine XL_skip 23 rfl rfl rfl rfl rfl ?_
          refine XL_skip 23 rfl rfl rfl rfl rfl ?_
          refine XL_det (.yes 21 rfl rfl rfl) (D_pure rfl) rfl ?_
          refine XL_det .no (D_pure rfl) rfl ?_
          refine XL_det .no (D_pure rfl) rfl ?_
          refine XL_skip 33 rfl rfl rfl rfl rfl ?_
          refine XL_skip 33 rfl rfl rfl rfl rfl ?_
          refine XL_skip 33 rfl rfl rfl rfl rfl ?_
          refine XL_skip 33 rfl rfl rfl rfl rfl ?_
          refine XL_skip 33 rfl rfl rfl rfl rfl ?_
          refine XL_skip 33 rfl rfl rfl rfl rfl ?_
          refine XL_skip 33 rfl rfl rfl rfl rfl ?_
          refine XL_det .no (D_pure rfl) rfl ?_
          refine XL_then ?_
          refine X_cond_f rfl rfl ?_
          refine X_skip ?_
          refine inBlk_normal ?_
          refine thenX_normal ?_
          refine X_region ?_
          refine XL_det .no (D_pure rfl) rfl ?_
          refine XL_det .no (D_add rfl rfl (by omega) (by omega)) rfl ?_
          refine XL_det .no (D_pure rfl) rfl ?_
          refine XL_nil ?_
          refine loopQ_next (i + 1) ?_ ?_ ?_ ?_
          · exact ⟨by omega, find_n hx hq (by cases k <;> simp_all [takesP, holdsP] <;> omega)⟩
          · omega
          · refine ⟨?_, ?_, ?_, ?_, trivial⟩ <;> rfl
          · exact ⟨_, (by with_reducible repeat first | exact .nil _ | exact .here _ _ | exact Take.self _ | apply Take.cons | apply Out.there | apply Take.skip | exact Take.pre _ _ | apply Out.app)⟩
    · try simp only [decide_eq_true_eq, decide_eq_false_iff_not, Bool.not_eq_true', Bool.not_eq_false', beq_iff_eq, bne_iff_ne, beq_eq_false_iff_ne, bne_eq_false_iff_eq, Int.not_lt, Int.not_le, gt_iff_lt, ge_iff_le, ne_eq] at h1
      refine X_exit ?_
      refine thenX_exit ?_
      refine loopQ_exit ?_
      refine inBlk_here ?_
      refine thenX_normal ?_
      refine X_seq ?_
      refine X_region ?_
      refine XL_det .no (D_pure rfl) rfl ?_
      refine XL_then ?_
      refine X_ret ?_
      refine ret_ok (.nil _) (res_tmp rfl rfl) ?_
      exact ⟨_, ⟨by rw [find_e (by omega) hq]; rfl, rfl⟩, _, (by with_reducible repeat first | exact .nil _ | exact .here _ _ | exact Take.self _ | apply Take.cons | apply Out.there | apply Take.skip | exact Take.pre _ _ | apply Out.app)⟩


/-- Sections one behind another, each within its task's longest. -/
def okL (T : Nat → Int) (cost : Int) : Int → List Sec → Prop
  | _, [] => True
  | lo, c :: l => lo ≤ c.2.1 ∧ c.2.1 < c.2.2 ∧ c.2.2 ≤ cost ∧ (∃ j : Nat, c.1 = (j : Int) ∧ j < 8 ∧ c.2.2 - c.2.1 ≤ T (3 + j)) ∧ okL T cost c.2.2 l
theorem cut_ok {T : Nat → Int} {cost from_ : Int} {s c : Sec} (hT : ∀ j, j < 8 → 0 ≤ T (3 + j)) (h : cutS T cost from_ s = some c) : from_ ≤ c.2.1 ∧ c.2.1 < c.2.2 ∧ c.2.2 ≤ cost ∧ (∃ j : Nat, c.1 = (j : Int) ∧ j < 8 ∧ c.2.2 - c.2.1 ≤ T (3 + j)) := by
  unfold cutS at h
  split at h
  · cases h
  · rename_i hn
    obtain ⟨j, hj⟩ := Int.eq_ofNat_of_zero_le (a := s.1) (by omega)
    have h8 : j < 8 := by omega
    have := hT j h8
    rw [hj, Int.toNat_natCast] at h hn
    simp only [Option.some.injEq] at h
    rcases Int.lt_or_le (T (3 + j)) (min s.2.2 cost - s.2.1) with hg | hg
    · rw [if_pos hg] at h; subst h
      refine ⟨?_, ?_, ?_, j, rfl, h8, ?_⟩ <;> dsimp only <;> omega
    · rw [if_neg (by omega)] at h; subst h
      refine ⟨?_, ?_, ?_, j, rfl, h8, ?_⟩ <;> dsimp only <;> omega
theorem secs_ok {T : Nat → Int} {cost : Int} (hT : ∀ j, j < 8 → 0 ≤ T (3 + j)) : ∀ (l : List Sec) (from_ : Int) (many : Nat), okL T cost from_ (secs T cost from_ many l)
  | [], _, _ => trivial
  | s :: l, from_, many => by
    rw [secs]
    split
    · trivial
    · cases hc : cutS T cost from_ s with
      | none => exact secs_ok hT l from_ many
      | some c =>
        obtain ⟨h1, h2, h3, h4⟩ := cut_ok hT hc
        exact ⟨h1, h2, h3, h4, secs_ok hT l _ _⟩
theorem okL_lo {T : Nat → Int} {cost : Int} : ∀ {l : List Sec} {lo : Int}, okL T cost lo l → ∀ c ∈ l, lo ≤ c.2.1 ∧ c.2.1 < c.2.2 ∧ c.2.2 ≤ cost ∧ (∃ j : Nat, c.1 = (j : Int) ∧ j < 8 ∧ c.2.2 - c.2.1 ≤ T (3 + j))
  | [], _, _, _, h => by cases h
  | d :: l, lo, ⟨h1, h2, h3, h4, h5⟩, c, hc => by
    rcases List.mem_cons.1 hc with rfl | hc
    · exact ⟨h1, h2, h3, h4⟩
    · obtain ⟨g1, g2⟩ := okL_lo h5 c hc; exact ⟨by omega, g2⟩
/-- Who holds something at d takes it there. -/
theorem takes_of {T : Nat → Int} {cost : Int} : ∀ {l : List Sec} {lo : Int} {c : Sec} {d : Int}, okL T cost lo l → c ∈ l → c.2.1 ≤ d → d < c.2.2 → l.find? (takesP d) = some c
  | [], _, _, _, _, h, _, _ => by cases h
  | e :: l, lo, c, d, ⟨h1, h2, h3, h4, h5⟩, hc, g1, g2 => by
    rcases List.mem_cons.1 hc with rfl | hc
    · rw [List.find?_cons]; simp [takesP, g1, g2]
    · have := (okL_lo h5 c hc).1
      rw [List.find?_cons, show takesP d e = false from by simp [takesP]; omega]
      exact takes_of h5 hc g1 g2
theorem holds_some {l : List Sec} {d : Int} (h : 0 ≤ resOf (l.find? (holdsP d))) : ∃ c, l.find? (holdsP d) = some c ∧ c ∈ l ∧ c.2.1 < d ∧ d < c.2.2 := by
  cases hf : l.find? (holdsP d) with
  | none => rw [hf] at h; simp [resOf] at h
  | some c =>
    have := List.find?_some hf
    simp [holdsP] at this
    exact ⟨c, rfl, List.mem_of_find?_eq_some hf, this.1, this.2⟩
/-- How long the resource that was taken last has been held, at the beginning of tick i. -/
def heldOk (l : List Sec) (i : Int) (held last : Int) : Prop := last < 0 ∨ ∃ c ∈ l, c.1 = last ∧ c.2.1 < i ∧ i < c.2.2 ∧ held ≤ i - c.2.1
theorem held_step {T : Nat → Int} {cost lo : Int} {l : List Sec} {i held last held' : Int} (ho : okL T cost lo l) (hi : heldOk l i held last) (hh : held' = (if resOf (l.find? (takesP i)) ≠ last then 0 else held) + 1) (hp : 0 ≤ resOf (l.find? (holdsP (i + 1)))) :
    heldOk l (i + 1) held' (resOf (l.find? (takesP i))) ∧ ∃ j : Nat, resOf (l.find? (takesP i)) = (j : Int) ∧ j < 8 ∧ held' ≤ T (3 + j) := by
  obtain ⟨c, _, hc, h1, h2⟩ := holds_some hp
  have ht := takes_of ho hc (show c.2.1 ≤ i by omega) (by omega)
  obtain ⟨_, _, _, j, hj, h8, hT⟩ := okL_lo ho c hc
  rw [ht] at hh ⊢
  have hle : held' ≤ i + 1 - c.2.1 := by
    rw [hh]
    split
    · omega
    · rename_i he
      simp only [ne_eq, Decidable.not_not] at he
      rcases hi with h | ⟨d, hd, g1, g2, g3, g4⟩
      · rw [← he] at h; simp only [resOf] at h; omega
      · have := takes_of ho hd (show d.2.1 ≤ i by omega) g3
        rw [ht] at this
        simp at this; subst this; omega
  exact ⟨.inr ⟨c, hc, rfl, h1, h2, hle⟩, j, hj, h8, by omega⟩
theorem holds_end {T : Nat → Int} {cost lo : Int} {l : List Sec} {d : Int} (h : okL T cost lo l) (hd : cost ≤ d) : resOf (l.find? (holdsP d)) = -1 := by
  cases hf : l.find? (holdsP d) with
  | none => rfl
  | some c =>
    have h1 := List.find?_some hf
    simp [holdsP] at h1
    have := (okL_lo h c (List.mem_of_find?_eq_some hf)).2.2.1
    omega

end Go.Proofs.YtkkdchgnknpceaaDoor
end

section
namespace Go.Proofs.YtkkdchgnknpceaaDoor
open Go Go.Sl
set_option linter.unusedVariables false
set_option linter.unusedSimpArgs false
set_option maxRecDepth 4000
variable {B : Nat} {K : Asrt B}
theorem arr_106 : arrOf Tryd.prog 106 = some (32, 1) := by kernel_rfl
theorem en_21 : Go.Proofs.Enters Tryd.prog 21 := Go.Proofs.enters_of Tryd.func21 (by kernel_rfl) rfl
theorem en_25 : Go.Proofs.Enters Tryd.prog 25 := Go.Proofs.enters_of Tryd.func25 (by kernel_rfl) rfl
theorem en_51 : Go.Proofs.Enters Tryd.prog 51 := Go.Proofs.enters_of Tryd.func51 (by kernel_rfl) rfl
theorem en_58 : Go.Proofs.Enters Tryd.prog 58 := Go.Proofs.enters_of Tryd.func58 (by kernel_rfl) rfl
theorem en_59 : Go.Proofs.Enters Tryd.prog 59 := Go.Proofs.enters_of Tryd.func59 (by kernel_rfl) rfl
theorem en_84 : Go.Proofs.Enters Tryd.prog 84 := Go.Proofs.enters_of Tryd.func84 (by kernel_rfl) rfl
theorem fld_108_0 : fldOff Tryd.prog 108 0 = some 0 := by kernel_rfl
theorem fld_108_1 : fldOff Tryd.prog 108 1 = some 1 := by kernel_rfl
theorem fld_108_2 : fldOff Tryd.prog 108 2 = some 33 := by kernel_rfl
theorem tk_152 : tyK Tryd.prog 152 = some (false, 1) := by kernel_rfl
theorem tk_4 : tyK Tryd.prog 4 = some (false, 1) := by kernel_rfl
theorem zero_4 : zeroOf Tryd.prog 4 = some [.bool false] := by kernel_rfl

/-- The set of the numbers of which p says so. -/
def setN (p : Nat → Bool) : Nat → BitVec 32
  | 0 => 0#32
  | n + 1 => if p n then setN p n ||| bitv n else setN p n
def setP (p : Nat → Bool) : BitVec 32 := setN p 32
theorem hasB_setN (p : Nat → Bool) : ∀ (n : Nat) (i : Nat), i < 32 → hasB (setN p n) i = (decide (i < n) && p i)
  | 0, i, _ => by simp [setN, hasB]
  | n + 1, i, hi => by
    rw [setN]
    by_cases e : i = n
    · subst e
      split
      · rename_i h; rw [hasB_or, hasB_bitv, h]; simp; omega
      · rename_i h; rw [hasB_setN p i i hi]; simp at h; rw [h]; simp
    · have ih := hasB_setN p n i hi
      split
      · rw [hasB_or, hasB_bitv, ih, decide_eq_false (show ¬ ((n : Int) = (i : Int) ∧ 0 ≤ (i : Int) ∧ (i : Int) < 32) by omega), Bool.or_false]
        congr 1; rw [Bool.eq_iff_iff]; simp; omega
      · rw [ih]; congr 1; rw [Bool.eq_iff_iff]; simp; omega
theorem hasB_setP (p : Nat → Bool) (i : Nat) (hi : i < 32) : hasB (setP p) i = p i := by
  rw [setP, hasB_setN p 32 i hi, decide_eq_true hi, Bool.true_and]
theorem setP_ext {p q : Nat → Bool} (h : ∀ i, i < 32 → p i = q i) : setP p = setP q := hasB_ext fun i hi => by rw [hasB_setP _ _ hi, hasB_setP _ _ hi, h i hi]
theorem setP_with {p : Nat → Bool} {b : Nat} (hb : b < 32) : setP p ||| bitv b = setP fun i => p i || decide (i = b) := hasB_ext fun i hi => by
  rw [hasB_or, hasB_bitv, hasB_setP _ _ hi, hasB_setP _ _ hi]; congr 1; rw [Bool.eq_iff_iff]; simp; omega
theorem setP_without {p : Nat → Bool} {b : Nat} (hb : b < 32) : setP p &&& ~~~(bitv b) = setP fun i => p i && !decide (i = b) := hasB_ext fun i hi => by
  rw [hasB_andnot, hasB_bitv, hasB_setP _ _ hi, hasB_setP _ _ hi]; congr 2; rw [Bool.eq_iff_iff]; simp; omega
theorem setP_zero {p : Nat → Bool} : setP p = 0#32 ↔ ∀ i, i < 32 → p i = false := by
  constructor
  · intro h i hi
    have := hasB_setP p i hi
    rw [h] at this; rw [← this]; simp [hasB]
  · intro h
    exact hasB_ext fun i hi => by rw [hasB_setP _ _ hi, h i hi]; simp [hasB]
/-- Of each number its level and one; 0: it isn't ready. -/
def atR (r : Nat → Int) (l : Nat) : BitVec 32 := setP fun n => r n == (l : Int) + 1
def someB (r : Nat → Int) (l : Nat) : Bool := (List.range 32).any fun n => r n == (l : Int) + 1
def someR (r : Nat → Int) : BitVec 32 := setP (someB r)
def allR (r : Nat → Int) : BitVec 32 := setP fun n => r n != 0
def rOk (r : Nat → Int) : Prop := ∀ n, 0 ≤ r n ∧ r n ≤ 32
abbrev rowU (n : Nat) (f : Nat → BitVec 32) : List Value := rowF (fun m => .int .u32 m.toNat) n f
abbrev qc (s : BitVec 32) (a : Nat → BitVec 32) (al : BitVec 32) : List Value := [.int .u32 s.toNat] ++ rowU 32 a ++ [.int .u32 al.toNat]
abbrev qR (r : Nat → Int) : List Value := qc (someR r) (atR r) (allR r)
theorem qcG {s al : BitVec 32} {a : Nat → BitVec 32} {j : Nat} (h : j < 32) : (qc s a al)[1 + j * 1]? = some (.int .u32 (a j).toNat) := by
  rw [Nat.mul_one]; exact app_get1 (app_get2 (n := 1) rfl (rowF_get h))
theorem qcGs {s al v : BitVec 32} {a : Nat → BitVec 32} {j : Nat} (h : j < 32) : (qc s a al).set (1 + j * 1) (.int .u32 v.toNat) = qc s (upd a j v) al := by
  rw [Nat.mul_one, app_set1 (by simp [rowF_len]; omega), app_set2 (n := 1) rfl]; exact congrArg (· ++ _) (congrArg (_ ++ ·) (rowF_set (c := fun m : BitVec 32 => Value.int .u32 m.toNat) (v := v)))
theorem qc_lt {s al : BitVec 32} {a : Nat → BitVec 32} {k : Nat} (h : k < 34) : Nat.blt k (qc s a al).length = true := by simp [rowF_len]; omega
theorem qc_ext {s s' al al' : BitVec 32} {a a' : Nat → BitVec 32} (h1 : s = s') (h2 : ∀ j, j < 32 → a j = a' j) (h3 : al = al') : qc s a al = qc s' a' al' := by
  subst h1 h3; unfold qc; rw [show rowU 32 a = rowU 32 a' from rowF_ext h2]
theorem someB_iff {r : Nat → Int} {l : Nat} : someB r l = true ↔ ∃ n, n < 32 ∧ r n = (l : Int) + 1 := by
  unfold someB; simp [List.any_eq_true]
theorem atR_has {r : Nat → Int} {l n : Nat} (h : n < 32) : hasB (atR r l) n = (r n == (l : Int) + 1) := hasB_setP _ _ h
theorem allR_has {r : Nat → Int} {n : Nat} (h : n < 32) : hasB (allR r) n = (r n != 0) := hasB_setP _ _ h
theorem someR_has {r : Nat → Int} {l : Nat} (h : l < 32) : hasB (someR r) l = someB r l := hasB_setP _ _ h
/-- At which level a number is ready. -/
def lvl (r : Nat → Int) (n : Int) : Int × Bool := if 0 ≤ n ∧ n < 32 ∧ r n.toNat ≠ 0 then (r n.toNat - 1, true) else (0, false)
def dropR (r : Nat → Int) (n : Int) : Nat → Int := if 0 ≤ n ∧ n < 32 then upd r n.toNat 0 else r
def putB (n l : Int) : Bool := decide (0 ≤ n ∧ n < 32 ∧ 0 ≤ l ∧ l < 32)
def putR (r : Nat → Int) (n l : Int) : Nat → Int := if putB n l then upd r n.toNat (l + 1) else r
theorem dropR_ok {r : Nat → Int} {n : Int} (h : rOk r) : rOk (dropR r n) := by
  unfold dropR; split
  · intro k; by_cases e : k = n.toNat
    · subst e; rw [upd_same]; omega
    · rw [upd_ne _ _ e]; exact h k
  · exact h
theorem putR_ok {r : Nat → Int} {n l : Int} (h : rOk r) : rOk (putR r n l) := by
  unfold putR; split
  · rename_i hp
    simp [putB] at hp
    intro k; by_cases e : k = n.toNat
    · subst e; rw [upd_same]; omega
    · rw [upd_ne _ _ e]; exact h k
  · exact h
theorem lvl_in {r : Nat → Int} {n : Nat} (h : n < 32) (h0 : r n ≠ 0) : lvl r n = (r n - 1, true) := by
  unfold lvl; rw [if_pos (by rw [Int.toNat_natCast]; omega), Int.toNat_natCast]
theorem lvl_out {r : Nat → Int} {n : Int} (h : ¬ (0 ≤ n ∧ n < 32)) : lvl r n = (0, false) := by unfold lvl; rw [if_neg (by omega)]
theorem lvl_not {r : Nat → Int} {n : Nat} (h0 : r n = 0) : lvl r n = (0, false) := by unfold lvl; rw [if_neg (by rw [Int.toNat_natCast]; omega)]
/-- Dropping: the blocks then. -/
theorem atR_drop {r : Nat → Int} {n l : Nat} (hn : n < 32) (hr : r n = (l : Int) + 1) (j : Nat) : atR (upd r n 0) j = upd (atR r) l (atR r l &&& ~~~(bitv n)) j := by
  by_cases e : j = l
  · subst e
    rw [upd_same, atR, atR, setP_without hn]
    refine setP_ext fun i hi => ?_
    by_cases h : i = n
    · subst h; rw [upd_same]; simp; omega
    · rw [upd_ne _ _ h]; simp [h]
  · rw [upd_ne _ _ e, atR, atR]
    refine setP_ext fun i hi => ?_
    by_cases h : i = n
    · subst h; rw [upd_same, hr, Bool.eq_iff_iff]; simp; omega
    · rw [upd_ne _ _ h]
theorem allR_drop {r : Nat → Int} {n : Nat} (hn : n < 32) : allR (upd r n 0) = allR r &&& ~~~(bitv n) := by
  rw [allR, allR, setP_without hn]
  refine setP_ext fun i hi => ?_
  by_cases h : i = n
  · subst h; rw [upd_same]; simp
  · rw [upd_ne _ _ h]; simp [h]
theorem someB_drop {r : Nat → Int} {n l : Nat} (hn : n < 32) (hr : r n = (l : Int) + 1) (j : Nat) : someB (upd r n 0) j = if j = l then !(atR r l &&& ~~~(bitv n) == 0#32) else someB r j := by
  have key : someB (upd r n 0) l = !(atR r l &&& ~~~(bitv n) == 0#32) := by
    have e := atR_drop hn hr l
    rw [upd_same] at e
    rw [← e, Bool.eq_iff_iff]
    simp only [Bool.not_eq_true', beq_eq_false_iff_ne, ne_eq]
    rw [someB_iff, atR, setP_zero]
    constructor
    · rintro ⟨k, h1, h2⟩ h
      have := h k h1
      rw [h2] at this; simp at this
    · intro h
      apply Classical.byContradiction
      intro h'
      apply h
      intro i hi
      rw [beq_eq_false_iff_ne]
      intro h2; exact h' ⟨i, hi, h2⟩
  split
  · rename_i e; rw [e]; exact key
  · rename_i e
    rw [Bool.eq_iff_iff, someB_iff, someB_iff]
    constructor
    · rintro ⟨k, h1, h2⟩
      by_cases h : k = n
      · subst h; rw [upd_same] at h2; omega
      · rw [upd_ne _ _ h] at h2; exact ⟨k, h1, h2⟩
    · rintro ⟨k, h1, h2⟩
      refine ⟨k, h1, ?_⟩
      by_cases h : k = n
      · subst h; omega
      · rw [upd_ne _ _ h]; exact h2
theorem someR_drop {r : Nat → Int} {n l : Nat} (hn : n < 32) (hl : l < 32) (hr : r n = (l : Int) + 1) : someR (upd r n 0) = if atR r l &&& ~~~(bitv n) = 0#32 then someR r &&& ~~~(bitv l) else someR r := by
  have hsl : someB r l = true := someB_iff.2 ⟨n, hn, hr⟩
  split
  · rename_i h
    rw [someR, someR, setP_without hl]
    refine setP_ext fun i hi => ?_
    rw [someB_drop hn hr, h]
    by_cases e : i = l
    · simp [e]
    · simp [e]
  · rename_i h
    refine setP_ext fun i hi => ?_
    rw [someB_drop hn hr]
    by_cases e : i = l
    · rw [if_pos e, e, hsl]; simpa using h
    · rw [if_neg e]
/-- Putting what isn't there. -/
theorem atR_put {r : Nat → Int} {n l : Nat} (hn : n < 32) (hr : r n = 0) (j : Nat) : atR (upd r n ((l : Int) + 1)) j = upd (atR r) l (atR r l ||| bitv n) j := by
  by_cases e : j = l
  · subst e
    rw [upd_same, atR, atR, setP_with hn]
    refine setP_ext fun i hi => ?_
    by_cases h : i = n
    · subst h; rw [upd_same]; simp
    · rw [upd_ne _ _ h]; simp [h]
  · rw [upd_ne _ _ e, atR, atR]
    refine setP_ext fun i hi => ?_
    by_cases h : i = n
    · subst h; rw [upd_same, hr, Bool.eq_iff_iff]; simp; omega
    · rw [upd_ne _ _ h]
theorem allR_put {r : Nat → Int} {n : Nat} {l : Int} (hn : n < 32) (hl : 0 ≤ l) : allR (upd r n (l + 1)) = allR r ||| bitv n := by
  rw [allR, allR, setP_with hn]
  refine setP_ext fun i hi => ?_
  by_cases h : i = n
  · subst h; rw [upd_same]; simp; omega
  · rw [upd_ne _ _ h]; simp [h]
theorem someR_put {r : Nat → Int} {n l : Nat} (hn : n < 32) (hl : l < 32) (hr : r n = 0) : someR (upd r n ((l : Int) + 1)) = someR r ||| bitv l := by
  rw [someR, someR, setP_with hl]
  refine setP_ext fun j hj => ?_
  rw [Bool.eq_iff_iff]
  simp only [Bool.or_eq_true, decide_eq_true_eq]
  rw [someB_iff, someB_iff]
  constructor
  · rintro ⟨k, h1, h2⟩
    by_cases h : k = n
    · subst h; rw [upd_same] at h2; exact .inr (by omega)
    · rw [upd_ne _ _ h] at h2; exact .inl ⟨k, h1, h2⟩
  · rintro (⟨k, h1, h2⟩ | h)
    · refine ⟨k, h1, ?_⟩
      by_cases h : k = n
      · subst h; omega
      · rw [upd_ne _ _ h]; exact h2
    · exact ⟨n, hn, by rw [upd_same, h]⟩
theorem bfn {m n : Int} (h : m = n) : some (Value.bool (m != n)) = some (.bool false) := by simp [h]
theorem beqF {a b : Bool} (h : a = b) : (a != b) = false := by rw [h]; simp
theorem beqT {a b : Bool} (h : a = b) : (a == b) = true := by rw [h]; simp

theorem lvl_no {r : Nat → Int} {n : Int} (hr : rOk r) (h : hasB (allR r) n = false) : lvl r n = (0, false) := by
  by_cases hn : 0 ≤ n ∧ n < 32
  · obtain ⟨k, rfl⟩ := Int.eq_ofNat_of_zero_le hn.1
    rw [allR_has (by omega)] at h
    exact lvl_not (by simpa using h)
  · exact lvl_out hn
theorem lvl_there {r : Nat → Int} {k : Nat} (hr : rOk r) (hk : k < 32) (h0 : r k ≠ 0) (h : ∀ j l : Nat, j < (listI (someR r)).length → (listI (someR r))[j]? = some (l : Int) → r k ≠ (l : Int) + 1) : False := by
  have h1 := hr k
  obtain ⟨l, hl⟩ := Int.eq_ofNat_of_zero_le (a := r k - 1) (by omega)
  have hm : (l : Int) ∈ listI (someR r) := mem_listN.2 ⟨by omega, by omega, by rw [someR_has (by omega)]; exact someB_iff.2 ⟨k, hk, by omega⟩⟩
  obtain ⟨j, hj, e⟩ := List.getElem_of_mem hm
  exact h j l hj (by rw [List.getElem?_eq_getElem hj, e]) (by omega)

theorem lvl_yes {r : Nat → Int} {n : Int} (hr : rOk r) (h : (lvl r n).2 = true) : ∃ k l : Nat, n = (k : Int) ∧ k < 32 ∧ l < 32 ∧ r k = (l : Int) + 1 ∧ (lvl r n).1 = (l : Int) := by
  unfold lvl at h ⊢
  split at h
  · rename_i hc
    obtain ⟨k, rfl⟩ := Int.eq_ofNat_of_zero_le hc.1
    rw [Int.toNat_natCast] at hc
    have := hr k
    obtain ⟨l, hl⟩ := Int.eq_ofNat_of_zero_le (a := r k - 1) (by omega)
    exact ⟨k, l, rfl, by omega, by omega, by omega, by rw [if_pos (by rw [Int.toNat_natCast]; exact hc), Int.toNat_natCast]; omega⟩
  · cases h
theorem upd_id {r : Nat → Int} {k : Nat} {v : Int} (h : r k = v) : upd r k v = r := by
  funext j; by_cases e : j = k
  · subst e; rw [upd_same, h]
  · rw [upd_ne _ _ e]
theorem upd_upd {r : Nat → Int} {k : Nat} {v w : Int} : upd (upd r k v) k w = upd r k w := by
  funext j; by_cases e : j = k
  · subst e; rw [upd_same, upd_same]
  · rw [upd_ne _ _ e, upd_ne _ _ e, upd_ne _ _ e]
theorem drop_no {r : Nat → Int} {n : Int} (h : (lvl r n).2 = false) : dropR r n = r := by
  unfold dropR
  split
  · rename_i hn
    obtain ⟨k, rfl⟩ := Int.eq_ofNat_of_zero_le hn.1
    rw [Int.toNat_natCast]
    refine upd_id ?_
    apply Classical.byContradiction
    intro h0
    rw [lvl_in (by omega) h0] at h; cases h
  · rfl
theorem drop_in {r : Nat → Int} {k : Nat} (h : k < 32) : dropR r k = upd r k 0 := by unfold dropR; rw [if_pos (by omega), Int.toNat_natCast]
theorem put_no {r : Nat → Int} {n l : Int} (h : ¬ (0 ≤ n ∧ n < 32 ∧ 0 ≤ l ∧ l < 32)) : putB n l = false ∧ putR r n l = r := by
  have : putB n l = false := by simp [putB]; omega
  exact ⟨this, by unfold putR; rw [this]; rfl⟩
theorem put_in {r : Nat → Int} {k j : Nat} (hk : k < 32) (hj : j < 32) : putB k j = true ∧ putR r k j = upd r k ((j : Int) + 1) := by
  have : putB k j = true := by simp [putB]; omega
  exact ⟨this, by unfold putR; rw [this, Int.toNat_natCast]; rfl⟩
theorem qR_drop {r : Nat → Int} {k l : Nat} (hk : k < 32) (hl : l < 32) (hr : r k = (l : Int) + 1) : qR (dropR r k) = qc (someR (upd r k 0)) (upd (atR r) l (atR r l &&& ~~~(bitv k))) (allR r &&& ~~~(bitv k)) := by
  rw [drop_in hk]; exact qc_ext rfl (fun j _ => atR_drop hk hr j) (allR_drop hk)
theorem qR_put {r : Nat → Int} {k j : Nat} (hk : k < 32) (hj : j < 32) : qR (putR r k j) = qc (someR (upd r k 0) ||| bitv j) (upd (atR (upd r k 0)) j (atR (upd r k 0) j ||| bitv k)) (allR (upd r k 0) ||| bitv k) := by
  rw [(put_in hk hj).2, ← upd_upd (v := 0)]
  exact qc_ext (someR_put hk hj (upd_same _ _ _)) (fun i _ => atR_put hk (upd_same _ _ _) i) (allR_put hk (by omega))
theorem upd0_ok {r : Nat → Int} {k : Nat} (h : rOk r) : rOk (upd r k 0) := by
  intro j; by_cases e : j = k
  · subst e; rw [upd_same]; omega
  · rw [upd_ne _ _ e]; exact h j
theorem qR_zero : qR (fun _ => 0) = qc 0#32 (fun _ => 0#32) 0#32 :=
  qc_ext (setP_zero.2 fun i _ => by cases h : someB (fun _ => 0) i with
    | false => rfl
    | true => obtain ⟨n, _, h2⟩ := someB_iff.1 h; have h3 : (0 : Int) = (i : Int) + 1 := h2; omega) (fun j _ => setP_zero.2 fun i _ => by rw [beq_eq_false_iff_ne]; show (0 : Int) ≠ (j : Int) + 1; omega) (setP_zero.2 fun i _ => by simp)
/-- Numbers and levels, as they go. -/
def pairN (r : Nat → Int) (l n : Nat) : List (Int × Int) := ((List.range n).filter fun k => r k == (l : Int) + 1).map fun (k : Nat) => ((k : Int), (l : Int))
def pairs (r : Nat → Int) (m : Nat) : List (Int × Int) := (List.range m).flatMap fun l => pairN r l 32
abbrev goes (r : Nat → Int) : List (Int × Int) := pairs r 32
theorem pairN_s (r : Nat → Int) (l n : Nat) : pairN r l (n + 1) = pairN r l n ++ (if r n = (l : Int) + 1 then [((n : Int), (l : Int))] else []) := by
  unfold pairN; rw [List.range_succ, List.filter_append, List.map_append]
  by_cases h : r n = (l : Int) + 1
  · rw [if_pos h]; simp [h]
  · rw [if_neg h]; simp [h]
theorem pairs_s (r : Nat → Int) (m : Nat) : pairs r (m + 1) = pairs r m ++ pairN r m 32 := by
  unfold pairs; rw [List.range_succ, List.flatMap_append]; simp
theorem mem_pairN {r : Nat → Int} {l n : Nat} {p : Int × Int} : p ∈ pairN r l n ↔ ∃ k : Nat, k < n ∧ r k = (l : Int) + 1 ∧ p = ((k : Int), (l : Int)) := by
  unfold pairN; simp only [List.mem_map, List.mem_filter, List.mem_range, beq_iff_eq]
  constructor
  · rintro ⟨k, ⟨h1, h2⟩, rfl⟩; exact ⟨k, h1, h2, rfl⟩
  · rintro ⟨k, h1, h2, rfl⟩; exact ⟨k, ⟨h1, h2⟩, rfl⟩
theorem mem_goes {r : Nat → Int} (hr : rOk r) {p : Int × Int} : p ∈ goes r ↔ ∃ k : Nat, k < 32 ∧ r k ≠ 0 ∧ p = ((k : Int), r k - 1) := by
  unfold goes pairs
  simp only [List.mem_flatMap, List.mem_range, mem_pairN]
  constructor
  · rintro ⟨l, h1, k, h2, h3, rfl⟩; exact ⟨k, h2, by omega, by rw [h3]; simp⟩
  · rintro ⟨k, h1, h2, rfl⟩
    have := hr k
    obtain ⟨l, hl⟩ := Int.eq_ofNat_of_zero_le (a := r k - 1) (by omega)
    exact ⟨l, by omega, k, h1, by omega, by rw [hl]⟩
theorem flatMap_filter {α β : Type} {l : List α} {p : α → Bool} {g : α → List β} (h : ∀ x ∈ l, p x = false → g x = []) : (l.filter p).flatMap g = l.flatMap g := by
  induction l with
  | nil => rfl
  | cons x l ih =>
    rw [List.flatMap_cons, List.filter_cons]
    have ih := ih fun y hy => h y (List.mem_cons_of_mem _ hy)
    cases hp : p x with
    | true => simp [ih]
    | false => rw [h x (List.mem_cons_self ..) hp]; simpa using ih
abbrev rowOf (r : Nat → Int) (l : Int) : List (Int × Int) := (listI (atR r l.toNat)).map fun n => (n, l)
theorem rowOf_pairN (r : Nat → Int) (l : Nat) : rowOf r l = pairN r l 32 := by
  unfold rowOf listI listN pairN
  rw [List.map_map, Int.toNat_natCast]
  rw [List.filter_congr (p := fun (i : Nat) => hasB (atR r l) (i : Int)) (q := fun k => r k == (l : Int) + 1) (fun k hk => atR_has (List.mem_range.1 hk))]
  rfl
theorem goes_list (r : Nat → Int) : (listI (someR r)).flatMap (rowOf r) = goes r := by
  unfold goes pairs
  have e : listI (someR r) = ((List.range 32).filter fun l => someB r l).map fun (l : Nat) => (l : Int) := by
    unfold listI listN
    rw [List.filter_congr (q := fun l => someB r l) (fun k hk => someR_has (List.mem_range.1 hk))]
  rw [e, List.flatMap_map]
  rw [show (fun (l : Nat) => rowOf r (l : Int)) = fun l => pairN r l 32 from funext fun l => rowOf_pairN r l]
  refine flatMap_filter fun l _ hf => ?_
  unfold pairN
  rw [List.filter_eq_nil_iff.2 fun k hk => ?_]
  · rfl
  · intro h
    have : someB r l = true := someB_iff.2 ⟨k, List.mem_range.1 hk, by simpa using h⟩
    rw [hf] at this; cases this
theorem goes_len (r : Nat → Int) : (goes r).length ≤ 1024 := by
  have h1 : ∀ l, (pairN r l 32).length ≤ 32 := fun l => by unfold pairN; rw [List.length_map]; exact Nat.le_trans (List.length_filter_le _ _) (by simp)
  have : ∀ m, (pairs r m).length ≤ 32 * m := by
    intro m
    induction m with
    | zero => simp [pairs]
    | succ m ih => rw [pairs_s, List.length_append]; have := h1 m; omega
  exact this 32
/-- What goes first. -/
def firstR (r : Nat → Int) : Int × Bool := match goes r with
  | [] => (0, false)
  | p :: _ => (p.1, true)
theorem some_zero {r : Nat → Int} (h : someR r = 0#32) : goes r = [] := by rw [← goes_list, h, list_zero]; rfl
theorem at_ne {r : Nat → Int} {l : Nat} (hl : l < 32) (h : hasB (someR r) l = true) : atR r l ≠ 0#32 := by
  rw [someR_has hl] at h
  obtain ⟨n, h1, h2⟩ := someB_iff.1 h
  intro h0
  have := setP_zero.1 h0 n h1
  rw [h2] at this; simp at this
theorem goes_head {r : Nat → Int} (h : someR r ≠ 0#32) : ∃ t, goes r = ((leastN (atR r (leastN (someR r))) : Int), (leastN (someR r) : Int)) :: t := by
  have h1 := at_ne (least_spec h).1 (least_spec h).2.1
  rw [← goes_list, list_pred h, List.flatMap_cons]
  unfold rowOf
  rw [Int.toNat_natCast, list_pred h1]
  exact ⟨_, rfl⟩
abbrev flatP (l : List (Int × Int)) : List Int := l.flatMap fun p => [p.1, p.2]


section
variable {Lp Lq : List Value} {s al : BitVec 32} {a : Nat → BitVec 32}
theorem qc_len (s al : BitVec 32) (a : Nat → BitVec 32) : (qc s a al).length = 34 := by simp [rowF_len]
theorem cq_some (hL : Lp.length = 97) : (Lp ++ (qc s a al ++ Lq))[97]? = some (.int .u32 s.toNat) := by
  have := app_get2 (k := 0) hL (app_get1 (ys := Lq) (show (qc s a al)[0]? = some (.int .u32 s.toNat) from rfl)); simpa using this
theorem cq_at (hL : Lp.length = 97) {j : Nat} (h : j < 32) : (Lp ++ (qc s a al ++ Lq))[98 + j * 1]? = some (.int .u32 (a j).toNat) := by
  have := app_get2 hL (app_get1 (ys := Lq) (qcG (s := s) (al := al) (a := a) h))
  rwa [show 97 + (1 + j * 1) = 98 + j * 1 by omega] at this
theorem qc_33 : (qc s a al)[33]? = some (.int .u32 al.toNat) := by
  unfold qc; exact app_get2 (n := 33) (k := 0) (by simp [rowF_len]) rfl
theorem cq_all (hL : Lp.length = 97) : (Lp ++ (qc s a al ++ Lq))[130]? = some (.int .u32 al.toNat) :=
  app_get2 (k := 33) hL (app_get1 qc_33)
theorem cq_sets (hL : Lp.length = 97) (v : BitVec 32) : (Lp ++ (qc s a al ++ Lq)).set 97 (.int .u32 v.toNat) = Lp ++ (qc v a al ++ Lq) := by
  have := app_set2 (k := 0) (v := .int .u32 v.toNat) (ys := qc s a al ++ Lq) hL
  rw [Nat.add_zero] at this; rw [this]; rfl
theorem cq_seta (hL : Lp.length = 97) {j : Nat} (h : j < 32) (v : BitVec 32) : (Lp ++ (qc s a al ++ Lq)).set (98 + j * 1) (.int .u32 v.toNat) = Lp ++ (qc s (upd a j v) al ++ Lq) := by
  have := app_set2 (k := 1 + j * 1) (v := .int .u32 v.toNat) (ys := qc s a al ++ Lq) hL
  rw [show 97 + (1 + j * 1) = 98 + j * 1 by omega] at this
  rw [this, app_set1 (by rw [qc_len]; omega), qcGs h]
theorem cq_setl (hL : Lp.length = 97) (v : BitVec 32) : (Lp ++ (qc s a al ++ Lq)).set 130 (.int .u32 v.toNat) = Lp ++ (qc s a v ++ Lq) := by
  have := app_set2 (k := 33) (v := .int .u32 v.toNat) (ys := qc s a al ++ Lq) hL
  rw [show 97 + 33 = 130 from rfl] at this
  rw [this, app_set1 (by rw [qc_len]; omega)]
  congr 2
theorem cq_lt (hL : Lp.length = 97) {k : Nat} (h : k < 131) : Nat.blt k (Lp ++ (qc s a al ++ Lq)).length = true := by
  rw [List.length_append, List.length_append, qc_len, hL]; simp; omega
end

theorem rlevel (q te : Nat) (Lp Lq : List Value) (hL : Lp.length = 97) (r : Nat → Int) (hr : rOk r) (n : Int) (hK : Rd K ⟨0, 0, none⟩ (tab32.map fun m => .int .u8 m)) : Ctr Tryd.prog B 84 [.pointer (some ⟨q, 97, none⟩), .int .i64 n] [blk q (Lp ++ (qR r ++ Lq)) te, K] (fun v S => v = .tuple #[.int .i64 (lvl r n).1, .bool (lvl r n).2] ∧ S = [blk q (Lp ++ (qR r ++ Lq)) te, K]) := by
  refine Ctr_of_X (N := 29) Tryd.func84 rfl (by simp) rfl ?_
  intro w0 D0
  refine X_seq ?_
  refine X_region ?_
  refine XL_box .no rfl rfl rfl (fun b1 => ?_)
  refine XL_box .no rfl rfl rfl (fun b2 => ?_)
  refine XL_alloc .no zero_3 rfl (fun b3 => ?_)
  refine XL_alloc .no zero_4 rfl (fun b4 => ?_)
  refine XL_then ?_
  refine X_seq ?_
  refine X_seq ?_
  refine X_draw _ mixed (Take.self _) ?_
  refine XA_det 0 rfl (by kernel_rfl) (by kernel_rfl) (by kernel_rfl) (by kernel_rfl) (fun _ _ _ _ h => h) .no (D_ldo rfl (by with_reducible repeat first | exact .here _ _ | apply Out.there | apply Out.app) tk_152 (by rfl)) rfl ?_
  refine XA_detp 1 rfl (by kernel_rfl) (by kernel_rfl) (by kernel_rfl) (fun _ _ _ _ h => h) .no (D_nilckP rfl) rfl ?_
  refine XA_detp 2 rfl (by kernel_rfl) (by kernel_rfl) (by kernel_rfl) (fun _ _ _ _ h => h) .no (D_fldP rfl fld_108_2 (o' := 130) rfl) rfl ?_
  refine XA_det 3 rfl (by kernel_rfl) (by kernel_rfl) (by kernel_rfl) (by kernel_rfl) (fun _ _ _ _ h => h) .no (D_ldo rfl (by with_reducible repeat first | exact .here _ _ | apply Out.there | apply Out.app) tk_37 (cq_all hL)) rfl ?_
  refine XA_det 4 rfl (by kernel_rfl) (by kernel_rfl) (by kernel_rfl) (by kernel_rfl) (fun _ _ _ _ h => h) .no (D_ldo rfl (by with_reducible repeat first | exact .here _ _ | apply Out.there | apply Out.app) tk_3 (by rfl)) rfl ?_
  refine XA_one 5 (by kernel_rfl) ?_
  refine XO_callv rfl .no en_21 rfl (mHas (allR r) n) rfl ?_
  refine XA_detp 6 rfl (by kernel_rfl) (by kernel_rfl) (by kernel_rfl) (fun _ _ _ _ h => h) .no (D_pureP rfl) rfl ?_
  refine XA_done (by kernel_rfl) ?_
  try simp only [List.cons_append, List.nil_append, List.append_nil]
  refine thenX_normal ?_
  refine X_cond rfl (fun h1 => ?_) (fun h1 => ?_)
  · try simp only [decide_eq_true_eq, decide_eq_false_iff_not, Bool.not_eq_true', Bool.not_eq_false', beq_iff_eq, bne_iff_ne, beq_eq_false_iff_ne, bne_eq_false_iff_eq, Int.not_lt, Int.not_le, gt_iff_lt, ge_iff_le, ne_eq] at h1
    refine X_seq ?_
    refine X_region ?_
    refine XL_efd .no (F_stl rfl rfl rfl (by with_reducible repeat first | exact .here _ _ | apply Out.there | apply Out.app) tk_3 (by repeat first | exact .zero _ _ _ | apply SetL.succ)) ?_
    refine XL_efd .no (F_stl rfl rfl rfl (by with_reducible repeat first | exact .here _ _ | apply Out.there | apply Out.app) tk_4 (by repeat first | exact .zero _ _ _ | apply SetL.succ)) ?_
    refine XL_then ?_
    refine X_ret ?_
    refine thenX_ret ?_
    refine ret_ok (.nil _) (res_cc rfl rfl rfl (by with_reducible repeat first | exact .here _ _ | apply Out.there | apply Out.app) (by with_reducible repeat first | exact .here _ _ | apply Out.there | apply Out.app) tk_3 tk_4) ?_
    exact ⟨_, ⟨by rw [show lvl r n = (0, false) from lvl_no hr h1], rfl⟩, _, (by with_reducible repeat first | exact .nil _ | exact .here _ _ | exact Take.self _ | apply Take.cons | apply Out.there | apply Take.skip | exact Take.pre _ _ | apply Out.app)⟩
  · try simp only [decide_eq_true_eq, decide_eq_false_iff_not, Bool.not_eq_true', Bool.not_eq_false', beq_iff_eq, bne_iff_ne, beq_eq_false_iff_ne, bne_eq_false_iff_eq, Int.not_lt, Int.not_le, gt_iff_lt, ge_iff_le, ne_eq] at h1
    have hn32 : 0 ≤ n ∧ n < 32 := by
      apply Classical.byContradiction; intro hh; rw [hasB_out _ _ hh] at h1; cases h1
    obtain ⟨k, rfl⟩ := Int.eq_ofNat_of_zero_le hn32.1
    have hk : k < 32 := by omega
    have hrk := hr k
    have hk0 : r k ≠ 0 := by rw [allR_has hk] at h1; simpa using h1
    refine X_skip ?_
    refine thenX_normal ?_
    refine X_seq ?_
    refine X_seq ?_
    refine X_region ?_
    refine XL_det .no (D_ldo rfl (by with_reducible repeat first | exact .here _ _ | apply Out.there | apply Out.app) tk_152 (by rfl)) rfl ?_
    refine XL_det .no (D_nilck rfl) rfl ?_
    refine XL_det .no (D_fld rfl fld_108_0 (o' := 97) rfl) rfl ?_
    refine XL_det .no (D_ldo rfl (by with_reducible repeat first | exact .here _ _ | apply Out.there | apply Out.app) tk_37 (cq_some hL)) rfl ?_
    refine XL_call .no en_47 rfl (mAll (someR r)) (by with_reducible repeat first | exact .nil _ | exact .here _ _ | exact Take.self _ | apply Take.cons | apply Out.there | apply Take.skip | exact Take.pre _ _ | apply Out.app) rfl ?_
    rintro _ _ ⟨ba, rfl, rfl⟩
    simp only [List.cons_append, List.nil_append]
    refine XL_then ?_
    refine X_block ?_
    refine X_range (own := [blk ba [.int .u32 (someR r).toNat] 37, K]) (S1 := [blk b1 [.pointer (some ⟨q, 97, none⟩)] 152, blk b2 [.int .i64 (k : Int)] 3, blk b3 [.int .i64 0] 3, blk b4 [.bool false] 4, blk q (Lp ++ (qR r ++ Lq)) te]) rfl en_78 (allItr ba (someR r) hK) (fun i S => (∀ j l : Nat, j < i → (listI (someR r))[j]? = some (l : Int) → r k ≠ (l : Int) + 1) ∧ S = [blk b1 [.pointer (some ⟨q, 97, none⟩)] 152, blk b2 [.int .i64 (k : Int)] 3, blk b3 [.int .i64 0] 3, blk b4 [.bool false] 4, blk q (Lp ++ (qR r ++ Lq)) te]) (fun c i S => c = .ret ∧ S = [blk b1 [.pointer (some ⟨q, 97, none⟩)] 152, blk b2 [.int .i64 (k : Int)] 3, blk b3 [.int .i64 (r k - 1)] 3, blk b4 [.bool true] 4, blk q (Lp ++ (qR r ++ Lq)) te]) (show Take ([blk ba [.int .u32 (someR r).toNat] 37, K, blk b1 [.pointer (some ⟨q, 97, none⟩)] 152, blk b2 [.int .i64 (k : Int)] 3, blk b3 [.int .i64 0] 3, blk b4 [.bool false] 4, blk q (Lp ++ (qR r ++ Lq)) te]) _ _ from (by with_reducible repeat first | exact .nil _ | exact .here _ _ | exact Take.self _ | apply Take.cons | apply Out.there | apply Take.skip | exact Take.pre _ _ | apply Out.app)) (⟨fun j l h => by omega, rfl⟩) rfl (fun x hx => by obtain ⟨y, _, rfl⟩ := List.mem_map.1 hx; rfl) ?_ ?_ ?_
    · intro ly rec A2 i S2 hi hJ
      obtain ⟨hq, rfl⟩ := hJ
      rw [List.length_map] at hi
      obtain ⟨m, hget⟩ : ∃ m, (listI (someR r))[i]? = some m := ⟨_, List.getElem?_eq_getElem hi⟩
      have hm := mem_listN.1 (List.mem_of_getElem? hget)
      obtain ⟨l, hl⟩ := Int.eq_ofNat_of_zero_le hm.1
      rw [map_get hget]
      refine X_region ?_
      refine XL_det .no (D_pure rfl) rfl ?_
      refine XL_nil ?_
      refine ⟨rfl, _, _, .cons (by with_reducible repeat first | exact .here _ _ | apply Out.there | apply Out.app) (Take.self _), fun rec2 => ?_⟩
      refine X_block ?_
      refine X_seq ?_
      refine X_draw _ mixed (Take.self _) ?_
      refine XA_det 0 rfl (by kernel_rfl) (by kernel_rfl) (by kernel_rfl) (by kernel_rfl) (fun _ _ _ _ h => h) .no (D_ldo rfl (by with_reducible repeat first | exact .here _ _ | apply Out.there | apply Out.app) tk_152 (by rfl)) rfl ?_
      refine XA_detp 1 rfl (by kernel_rfl) (by kernel_rfl) (by kernel_rfl) (fun _ _ _ _ h => h) .no (D_pureP rfl) rfl ?_
      refine XA_detp 2 rfl (by kernel_rfl) (by kernel_rfl) (by kernel_rfl) (fun _ _ _ _ h => h) .no (D_nilckP rfl) rfl ?_
      refine XA_detp 3 rfl (by kernel_rfl) (by kernel_rfl) (by kernel_rfl) (fun _ _ _ _ h => h) .no (D_fldP rfl fld_108_1 (o' := 98) rfl) rfl ?_
      refine XA_detp 4 rfl (by kernel_rfl) (by kernel_rfl) (by kernel_rfl) (fun _ _ _ _ h => h) .no (D_idxAP rfl rfl arr_106 hl (by omega) rfl) rfl ?_
      refine XA_det 5 rfl (by kernel_rfl) (by kernel_rfl) (by kernel_rfl) (by kernel_rfl) (fun _ _ _ _ h => h) .no (D_ldo rfl (by with_reducible repeat first | exact .here _ _ | apply Out.there | apply Out.app) tk_37 (cq_at hL (by omega))) rfl ?_
      refine XA_det 6 rfl (by kernel_rfl) (by kernel_rfl) (by kernel_rfl) (by kernel_rfl) (fun _ _ _ _ h => h) .no (D_ldo rfl (by with_reducible repeat first | exact .here _ _ | apply Out.there | apply Out.app) tk_3 (by rfl)) rfl ?_
      refine XA_one 7 (by kernel_rfl) ?_
      refine XO_callv rfl .no en_21 rfl (mHas (atR r l) k) rfl ?_
      refine XA_done (by kernel_rfl) ?_
      try simp only [List.cons_append, List.nil_append, List.append_nil]
      refine thenX_normal ?_
      refine X_cond rfl (fun h2 => ?_) (fun h2 => ?_)
      · try simp only [decide_eq_true_eq, decide_eq_false_iff_not, Bool.not_eq_true', Bool.not_eq_false', beq_iff_eq, bne_iff_ne, beq_eq_false_iff_ne, bne_eq_false_iff_eq, Int.not_lt, Int.not_le, gt_iff_lt, ge_iff_le, ne_eq] at h2
        refine X_seq ?_
        refine X_region ?_
        refine XL_det .no (D_pure rfl) rfl ?_
        refine XL_efd .no (F_stl rfl rfl rfl (by with_reducible repeat first | exact .here _ _ | apply Out.there | apply Out.app) tk_3 (by repeat first | exact .zero _ _ _ | apply SetL.succ)) ?_
        refine XL_efd .no (F_stl rfl rfl rfl (by with_reducible repeat first | exact .here _ _ | apply Out.there | apply Out.app) tk_4 (by repeat first | exact .zero _ _ _ | apply SetL.succ)) ?_
        refine XL_then ?_
        refine X_ret ?_
        refine inBlk_ret ?_
        exact ⟨[blk b1 [.pointer (some ⟨q, 97, none⟩)] 152, blk b2 [.int .i64 (k : Int)] 3, blk b3 [.int .i64 m] 3, blk b4 [.bool true] 4, blk q (Lp ++ (qR r ++ Lq)) te], _, (by with_reducible repeat first | exact .nil _ | exact .here _ _ | exact Take.self _ | apply Take.cons | apply Out.there | apply Take.skip | exact Take.pre _ _ | apply Out.app), ⟨rfl, by rw [atR_has hk] at h2; simp at h2; rw [show m = r k - 1 by omega]⟩⟩
      · try simp only [decide_eq_true_eq, decide_eq_false_iff_not, Bool.not_eq_true', Bool.not_eq_false', beq_iff_eq, bne_iff_ne, beq_eq_false_iff_ne, bne_eq_false_iff_eq, Int.not_lt, Int.not_le, gt_iff_lt, ge_iff_le, ne_eq] at h2
        refine X_skip ?_
        refine inBlk_normal ?_
        exact ⟨[blk b1 [.pointer (some ⟨q, 97, none⟩)] 152, blk b2 [.int .i64 (k : Int)] 3, blk b3 [.int .i64 0] 3, blk b4 [.bool false] 4, blk q (Lp ++ (qR r ++ Lq)) te], _, (by with_reducible repeat first | exact .nil _ | exact .here _ _ | exact Take.self _ | apply Take.cons | apply Out.there | apply Take.skip | exact Take.pre _ _ | apply Out.app), ⟨fun j l2 hj hg => by rcases Nat.lt_succ_iff_lt_or_eq.1 hj with h | rfl; exact hq j l2 h hg; rw [hget] at hg; have := Option.some.inj hg; rw [atR_has hk] at h2; simp at h2; omega, rfl⟩⟩
    · intro dd0 S2 hJ
      obtain ⟨hq, rfl⟩ := hJ
      simp only [List.cons_append, List.nil_append]
      refine inBlk_normal ?_
      refine thenX_normal ?_
      refine X_seq ?_
      refine X_region ?_
      refine XL_efd .no (F_stl rfl rfl rfl (by with_reducible repeat first | exact .here _ _ | apply Out.there | apply Out.app) tk_3 (by repeat first | exact .zero _ _ _ | apply SetL.succ)) ?_
      refine XL_efd .no (F_stl rfl rfl rfl (by with_reducible repeat first | exact .here _ _ | apply Out.there | apply Out.app) tk_4 (by repeat first | exact .zero _ _ _ | apply SetL.succ)) ?_
      refine XL_then ?_
      refine X_ret ?_
      refine ret_ok (show Take [dfr dd0] _ _ from (by with_reducible repeat first | exact .nil _ | exact .here _ _ | exact Take.self _ | apply Take.cons | apply Out.there | apply Take.skip | exact Take.pre _ _ | apply Out.app)) (res_cc rfl rfl rfl (by with_reducible repeat first | exact .here _ _ | apply Out.there | apply Out.app) (by with_reducible repeat first | exact .here _ _ | apply Out.there | apply Out.app) tk_3 tk_4) ?_
      exfalso
      exact lvl_there hr hk hk0 (by rw [List.length_map] at hq; exact hq)
    · intro dd0 c i S2 hi h
      obtain ⟨rfl, rfl⟩ := h
      simp only [List.cons_append, List.nil_append]
      refine X_ret ?_
      refine inBlk_ret ?_
      refine thenX_ret ?_
      refine ret_ok (show Take [dfr dd0] _ _ from (by with_reducible repeat first | exact .nil _ | exact .here _ _ | exact Take.self _ | apply Take.cons | apply Out.there | apply Take.skip | exact Take.pre _ _ | apply Out.app)) (res_cc rfl rfl rfl (by with_reducible repeat first | exact .here _ _ | apply Out.there | apply Out.app) (by with_reducible repeat first | exact .here _ _ | apply Out.there | apply Out.app) tk_3 tk_4) ?_
      exact ⟨_, ⟨by rw [lvl_in hk hk0], rfl⟩, _, (by with_reducible repeat first | exact .nil _ | exact .here _ _ | exact Take.self _ | apply Take.cons | apply Out.there | apply Take.skip | exact Take.pre _ _ | apply Out.app)⟩

theorem rdrop (q te : Nat) (Lp Lq : List Value) (hL : Lp.length = 97) (r : Nat → Int) (hr : rOk r) (n : Int) (hK : Rd K ⟨0, 0, none⟩ (tab32.map fun m => .int .u8 m)) : Ctr Tryd.prog B 59 [.pointer (some ⟨q, 97, none⟩), .int .i64 n] [blk q (Lp ++ (qR r ++ Lq)) te, K] (fun v S => v = .bool (lvl r n).2 ∧ S = [blk q (Lp ++ (qR (dropR r n) ++ Lq)) te, K]) := by
  refine Ctr_of_X (N := 53) Tryd.func59 rfl (by simp) rfl ?_
  intro w0 D0
  refine X_seq ?_
  refine X_region ?_
  refine XL_det .no (D_pure rfl) rfl ?_
  refine XL_then ?_
  refine X_seq ?_
  refine X_region ?_
  refine XL_det .no (D_pure rfl) rfl ?_
  refine XL_det .no (D_pure rfl) rfl ?_
  refine XL_callk .no en_84 rfl (rlevel q te Lp Lq hL r hr n hK) (by with_reducible repeat first | exact .nil _ | exact .here _ _ | exact Take.self _ | apply Take.cons | apply Out.there | apply Take.skip | exact Take.pre _ _ | apply Out.app) rfl ?_
  refine XL_det .no (D_pure rfl) rfl ?_
  refine XL_det .no (D_pure (v := .int .i64 (lvl r n).1) rfl) rfl ?_
  refine XL_det .no (D_pure (v := .bool (lvl r n).2) rfl) rfl ?_
  refine XL_det .no (D_pure rfl) rfl ?_
  refine XL_det .no (D_pure rfl) rfl ?_
  refine XL_then ?_
  refine X_seq ?_
  refine X_seq ?_
  refine X_region ?_
  refine XL_det .no (D_pure rfl) rfl ?_
  refine XL_det .no (D_pure rfl) rfl ?_
  refine XL_then ?_
  refine X_cond rfl (fun h1 => ?_) (fun h1 => ?_)
  · try simp only [decide_eq_true_eq, decide_eq_false_iff_not, Bool.not_eq_true', Bool.not_eq_false', beq_iff_eq, bne_iff_ne, beq_eq_false_iff_ne, bne_eq_false_iff_eq, Int.not_lt, Int.not_le, gt_iff_lt, ge_iff_le, ne_eq] at h1
    refine X_seq ?_
    refine X_region ?_
    refine XL_det .no (D_pure rfl) rfl ?_
    refine XL_then ?_
    refine X_ret ?_
    refine thenX_ret ?_
    refine ret_ok (.nil _) (res_tmp rfl rfl) ?_
    exact ⟨_, ⟨by rw [h1], by rw [drop_no h1]⟩, _, (by with_reducible repeat first | exact .nil _ | exact .here _ _ | exact Take.self _ | apply Take.cons | apply Out.there | apply Take.skip | exact Take.pre _ _ | apply Out.app)⟩
  · try simp only [decide_eq_true_eq, decide_eq_false_iff_not, Bool.not_eq_true', Bool.not_eq_false', beq_iff_eq, bne_iff_ne, beq_eq_false_iff_ne, bne_eq_false_iff_eq, Int.not_lt, Int.not_le, gt_iff_lt, ge_iff_le, ne_eq] at h1
    obtain ⟨k, l, rfl, hk, hl, hrk, hlv⟩ := lvl_yes hr h1
    rw [hlv]
    refine X_skip ?_
    refine thenX_normal ?_
    refine X_seq ?_
    refine X_draw _ mixed (Take.self _) ?_
    refine XA_detp 0 rfl (by kernel_rfl) (by kernel_rfl) (by kernel_rfl) (fun _ _ _ _ h => h) .no (D_pureP rfl) rfl ?_
    refine XA_detp 1 rfl (by kernel_rfl) (by kernel_rfl) (by kernel_rfl) (fun _ _ _ _ h => h) .no (D_pureP rfl) rfl ?_
    refine XA_detp 2 rfl (by kernel_rfl) (by kernel_rfl) (by kernel_rfl) (fun _ _ _ _ h => h) .no (D_pureP rfl) rfl ?_
    refine XA_detp 3 rfl (by kernel_rfl) (by kernel_rfl) (by kernel_rfl) (fun _ _ _ _ h => h) .no (D_pureP rfl) rfl ?_
    refine XA_detp 4 rfl (by kernel_rfl) (by kernel_rfl) (by kernel_rfl) (fun _ _ _ _ h => h) .no (D_nilckP rfl) rfl ?_
    refine XA_detp 5 rfl (by kernel_rfl) (by kernel_rfl) (by kernel_rfl) (fun _ _ _ _ h => h) .no (D_fldP rfl fld_108_1 (o' := 98) rfl) rfl ?_
    refine XA_detp 6 rfl (by kernel_rfl) (by kernel_rfl) (by kernel_rfl) (fun _ _ _ _ h => h) .no (D_idxAP rfl rfl arr_106 rfl (by omega) rfl) rfl ?_
    refine XA_det 7 rfl (by kernel_rfl) (by kernel_rfl) (by kernel_rfl) (by kernel_rfl) (fun _ _ _ _ h => h) .no (D_ldo rfl (by with_reducible repeat first | exact .here _ _ | apply Out.there | apply Out.app) tk_37 (cq_at hL (by omega))) rfl ?_
    refine XA_detp 8 rfl (by kernel_rfl) (by kernel_rfl) (by kernel_rfl) (fun _ _ _ _ h => h) .no (D_pureP rfl) rfl ?_
    refine XA_detp 10 rfl (by kernel_rfl) (by kernel_rfl) (by kernel_rfl) (fun _ _ _ _ h => h) .no (D_nilckP rfl) rfl ?_
    refine XA_detp 11 rfl (by kernel_rfl) (by kernel_rfl) (by kernel_rfl) (fun _ _ _ _ h => h) .no (D_fldP rfl fld_108_1 (o' := 98) rfl) rfl ?_
    refine XA_one 9 (by kernel_rfl) ?_
    refine XO_callv rfl .no en_58 rfl (mWithout (atR r l) k) rfl ?_
    refine XA_detp 12 rfl (by kernel_rfl) (by kernel_rfl) (by kernel_rfl) (fun _ _ _ _ h => h) .no (D_idxAP rfl rfl arr_106 rfl (by omega) rfl) rfl ?_
    refine XA_one 13 (by kernel_rfl) ?_
    refine XO_efd rfl .no (by with_reducible repeat first | exact .nil _ | apply App.cons) (F_st (k := 98 + l * 1) (cs' := Lp ++ (qc (someR r) (upd (atR r) l (atR r l &&& ~~~(bitv k))) (allR r) ++ Lq)) rfl rfl rfl (by with_reducible repeat first | exact .here _ _ | apply Out.there | apply Out.app) tk_37 (cq_lt hL (by omega)) (cq_seta hL (by omega) _)) (by kernel_rfl) ?_
    refine XA_done (by kernel_rfl) ?_
    try simp only [List.cons_append, List.nil_append, List.append_nil]
    refine thenX_normal ?_
    refine X_seqj (α := BitVec 32) (fun sm => sm = someR (upd r k 0)) (fun sm => [(0, .pointer (some ⟨q, 97, none⟩)), (1, .int .i64 (k : Int))]) (fun sm => [blk q (Lp ++ (qc sm (upd (atR r) l (atR r l &&& ~~~(bitv k))) (allR r) ++ Lq)) te, K]) ?_ ?_
    · skip
      refine X_seq ?_
      refine X_region ?_
      refine XL_det .no (D_pure rfl) rfl ?_
      refine XL_det .no (D_pure rfl) rfl ?_
      refine XL_det .no (D_nilck rfl) rfl ?_
      refine XL_det .no (D_fld rfl fld_108_1 (o' := 98) rfl) rfl ?_
      refine XL_det .no (D_idxA rfl rfl arr_106 rfl (by omega) rfl) rfl ?_
      refine XL_det .no (D_ldo rfl (by with_reducible repeat first | exact .here _ _ | apply Out.there | apply Out.app) tk_37 ((cq_at hL (by omega)).trans (by rw [upd_same]))) rfl ?_
      refine XL_det .no (D_pure rfl) rfl ?_
      refine XL_then ?_
      refine X_cond rfl (fun h2 => ?_) (fun h2 => ?_)
      · try simp only [decide_eq_true_eq, decide_eq_false_iff_not, Bool.not_eq_true', Bool.not_eq_false', beq_iff_eq, bne_iff_ne, beq_eq_false_iff_ne, bne_eq_false_iff_eq, Int.not_lt, Int.not_le, gt_iff_lt, ge_iff_le, ne_eq] at h2
        refine X_region ?_
        refine XL_det .no (D_pure rfl) rfl ?_
        refine XL_det .no (D_pure rfl) rfl ?_
        refine XL_det .no (D_nilck rfl) rfl ?_
        refine XL_det .no (D_fld rfl fld_108_0 (o' := 97) rfl) rfl ?_
        refine XL_det .no (D_ldo rfl (by with_reducible repeat first | exact .here _ _ | apply Out.there | apply Out.app) tk_37 (cq_some hL)) rfl ?_
        refine XL_det .no (D_pure rfl) rfl ?_
        refine XL_callv .no en_58 rfl (mWithout (someR r) l) rfl ?_
        refine XL_det .no (D_nilck rfl) rfl ?_
        refine XL_det .no (D_fld rfl fld_108_0 (o' := 97) rfl) rfl ?_
        refine XL_efd .no (F_st (k := 97) (cs' := Lp ++ (qc (someR r &&& ~~~(bitv l)) (upd (atR r) l (atR r l &&& ~~~(bitv k))) (allR r) ++ Lq)) rfl rfl rfl (by with_reducible repeat first | exact .here _ _ | apply Out.there | apply Out.app) tk_37 (cq_lt hL (by omega)) (cq_sets hL _)) ?_
        refine XL_nil ?_
        refine joinQ_normal (someR r &&& ~~~(bitv l)) ?_ ?_ ?_
        · rw [someR_drop hk hl hrk, if_pos (eq_zero_of h2)]
        · refine ⟨?_, ?_, trivial⟩ <;> rfl
        · exact ⟨_, (by with_reducible repeat first | exact .nil _ | exact .here _ _ | exact Take.self _ | apply Take.cons | apply Out.there | apply Take.skip | exact Take.pre _ _ | apply Out.app)⟩
      · try simp only [decide_eq_true_eq, decide_eq_false_iff_not, Bool.not_eq_true', Bool.not_eq_false', beq_iff_eq, bne_iff_ne, beq_eq_false_iff_ne, bne_eq_false_iff_eq, Int.not_lt, Int.not_le, gt_iff_lt, ge_iff_le, ne_eq] at h2
        refine X_skip ?_
        refine joinQ_normal (someR r) ?_ ?_ ?_
        · rw [someR_drop hk hl hrk, if_neg (ne_zero_of h2)]
        · refine ⟨?_, ?_, trivial⟩ <;> rfl
        · exact ⟨_, (by with_reducible repeat first | exact .nil _ | exact .here _ _ | exact Take.self _ | apply Take.cons | apply Out.there | apply Take.skip | exact Take.pre _ _ | apply Out.app)⟩
    · intro sm hsm
      refine X_seq ?_
      refine X_region ?_
      refine XL_det .no (D_pure rfl) rfl ?_
      refine XL_det .no (D_pure rfl) rfl ?_
      refine XL_det .no (D_nilck rfl) rfl ?_
      refine XL_det .no (D_fld rfl fld_108_2 (o' := 130) rfl) rfl ?_
      refine XL_det .no (D_ldo rfl (by with_reducible repeat first | exact .here _ _ | apply Out.there | apply Out.app) tk_37 (cq_all hL)) rfl ?_
      refine XL_det .no (D_pure rfl) rfl ?_
      refine XL_callv .no en_58 rfl (mWithout (allR r) k) rfl ?_
      refine XL_det .no (D_nilck rfl) rfl ?_
      refine XL_det .no (D_fld rfl fld_108_2 (o' := 130) rfl) rfl ?_
      refine XL_efd .no (F_st (k := 130) (cs' := Lp ++ (qc sm (upd (atR r) l (atR r l &&& ~~~(bitv k))) (allR r &&& ~~~(bitv k)) ++ Lq)) rfl rfl rfl (by with_reducible repeat first | exact .here _ _ | apply Out.there | apply Out.app) tk_37 (cq_lt hL (by omega)) (cq_setl hL _)) ?_
      refine XL_then ?_
      refine X_seq ?_
      refine X_region ?_
      refine XL_det .no (D_pure rfl) rfl ?_
      refine XL_then ?_
      refine X_ret ?_
      refine ret_ok (.nil _) (res_tmp rfl rfl) ?_
      rw [hsm, ← qR_drop hk hl hrk]
      exact ⟨_, ⟨by rw [h1], rfl⟩, _, (by with_reducible repeat first | exact .nil _ | exact .here _ _ | exact Take.self _ | apply Take.cons | apply Out.there | apply Take.skip | exact Take.pre _ _ | apply Out.app)⟩

theorem rput (q te : Nat) (Lp Lq : List Value) (hL : Lp.length = 97) (r : Nat → Int) (hr : rOk r) (n l : Int) (hK : Rd K ⟨0, 0, none⟩ (tab32.map fun m => .int .u8 m)) : Ctr Tryd.prog B 79 [.pointer (some ⟨q, 97, none⟩), .int .i64 n, .int .i64 l] [blk q (Lp ++ (qR r ++ Lq)) te, K] (fun v S => v = .bool (putB n l) ∧ S = [blk q (Lp ++ (qR (putR r n l) ++ Lq)) te, K]) := by
  refine Ctr_of_X (N := 55) Tryd.func79 rfl (by simp) rfl ?_
  intro w0 D0
  refine X_seq ?_
  refine X_region ?_
  refine XL_det .no (D_pure rfl) rfl ?_
  refine XL_then ?_
  refine X_seq ?_
  refine X_seq ?_
  refine X_region ?_
  refine XL_det .no (D_pure rfl) rfl ?_
  refine XL_det .no (D_pure rfl) rfl ?_
  refine XL_det .no (D_pure rfl) rfl ?_
  refine XL_split (t := 9) rfl (fun h1 => ?_) (fun h1 => ?_)
  · try simp only [decide_eq_true_eq, decide_eq_false_iff_not, Bool.not_eq_true', Bool.not_eq_false', beq_iff_eq, bne_iff_ne, beq_eq_false_iff_ne, bne_eq_false_iff_eq, Int.not_lt, Int.not_le, gt_iff_lt, ge_iff_le, ne_eq] at h1
    refine XL_skip 9 rfl rfl rfl rfl rfl ?_
    refine XL_skip 9 rfl rfl rfl rfl rfl ?_
    refine XL_det .no (D_pure rfl) rfl ?_
    refine XL_det .no (D_pure rfl) rfl ?_
    refine XL_skip 13 rfl rfl rfl rfl rfl ?_
    refine XL_skip 13 rfl rfl rfl rfl rfl ?_
    refine XL_det .no (D_pure rfl) rfl ?_
    refine XL_det .no (D_pure rfl) rfl ?_
    refine XL_skip 17 rfl rfl rfl rfl rfl ?_
    refine XL_skip 17 rfl rfl rfl rfl rfl ?_
    refine XL_det .no (D_pure rfl) rfl ?_
    refine XL_then ?_
    refine X_cond_t rfl rfl ?_
    refine X_seq ?_
    refine X_region ?_
    refine XL_det .no (D_pure rfl) rfl ?_
    refine XL_then ?_
    refine X_ret ?_
    refine thenX_ret ?_
    refine ret_ok (.nil _) (res_tmp rfl rfl) ?_
    exact ⟨_, ⟨by rw [(put_no (r := r) (by omega)).1], by rw [(put_no (r := r) (by omega)).2]⟩, _, (by with_reducible repeat first | exact .nil _ | exact .here _ _ | exact Take.self _ | apply Take.cons | apply Out.there | apply Take.skip | exact Take.pre _ _ | apply Out.app)⟩
  · try simp only [decide_eq_true_eq, decide_eq_false_iff_not, Bool.not_eq_true', Bool.not_eq_false', beq_iff_eq, bne_iff_ne, beq_eq_false_iff_ne, bne_eq_false_iff_eq, Int.not_lt, Int.not_le, gt_iff_lt, ge_iff_le, ne_eq] at h1
    refine XL_det (.yes 9 rfl rfl rfl) (D_pure rfl) rfl ?_
    refine XL_det (.yes 9 rfl rfl rfl) (D_pure rfl) rfl ?_
    refine XL_det .no (D_pure rfl) rfl ?_
    refine XL_det .no (D_pure rfl) rfl ?_
    refine XL_split (t := 13) rfl (fun h2 => ?_) (fun h2 => ?_)
    · try simp only [decide_eq_true_eq, decide_eq_false_iff_not, Bool.not_eq_true', Bool.not_eq_false', beq_iff_eq, bne_iff_ne, beq_eq_false_iff_ne, bne_eq_false_iff_eq, Int.not_lt, Int.not_le, gt_iff_lt, ge_iff_le, ne_eq] at h2
      refine XL_skip 13 rfl rfl rfl rfl rfl ?_
      refine XL_skip 13 rfl rfl rfl rfl rfl ?_
      refine XL_det .no (D_pure rfl) rfl ?_
      refine XL_det .no (D_pure rfl) rfl ?_
      refine XL_skip 17 rfl rfl rfl rfl rfl ?_
      refine XL_skip 17 rfl rfl rfl rfl rfl ?_
      refine XL_det .no (D_pure rfl) rfl ?_
      refine XL_then ?_
      refine X_cond_t rfl rfl ?_
      refine X_seq ?_
      refine X_region ?_
      refine XL_det .no (D_pure rfl) rfl ?_
      refine XL_then ?_
      refine X_ret ?_
      refine thenX_ret ?_
      refine ret_ok (.nil _) (res_tmp rfl rfl) ?_
      exact ⟨_, ⟨by rw [(put_no (r := r) (by omega)).1], by rw [(put_no (r := r) (by omega)).2]⟩, _, (by with_reducible repeat first | exact .nil _ | exact .here _ _ | exact Take.self _ | apply Take.cons | apply Out.there | apply Take.skip | exact Take.pre _ _ | apply Out.app)⟩
    · try simp only [decide_eq_true_eq, decide_eq_false_iff_not, Bool.not_eq_true', Bool.not_eq_false', beq_iff_eq, bne_iff_ne, beq_eq_false_iff_ne, bne_eq_false_iff_eq, Int.not_lt, Int.not_le, gt_iff_lt, ge_iff_le, ne_eq] at h2
      refine XL_det (.yes 13 rfl rfl rfl) (D_pure rfl) rfl ?_
      refine XL_det (.yes 13 rfl rfl rfl) (D_pure rfl) rfl ?_
      refine XL_det .no (D_pure rfl) rfl ?_
      refine XL_det .no (D_pure rfl) rfl ?_
      refine XL_split (t := 17) rfl (fun h3 => ?_) (fun h3 => ?_)
      · try simp only [decide_eq_true_eq, decide_eq_false_iff_not, Bool.not_eq_true', Bool.not_eq_false', beq_iff_eq, bne_iff_ne, beq_eq_false_iff_ne, bne_eq_false_iff_eq, Int.not_lt, Int.not_le, gt_iff_lt, ge_iff_le, ne_eq] at h3
        refine XL_skip 17 rfl rfl rfl rfl rfl ?_
        refine XL_skip 17 rfl rfl rfl rfl rfl ?_
        refine XL_det .no (D_pure rfl) rfl ?_
        refine XL_then ?_
        refine X_cond_t rfl rfl ?_
        refine X_seq ?_
        refine X_region ?_
        refine XL_det .no (D_pure rfl) rfl ?_
        refine XL_then ?_
        refine X_ret ?_
        refine thenX_ret ?_
        refine ret_ok (.nil _) (res_tmp rfl rfl) ?_
        exact ⟨_, ⟨by rw [(put_no (r := r) (by omega)).1], by rw [(put_no (r := r) (by omega)).2]⟩, _, (by with_reducible repeat first | exact .nil _ | exact .here _ _ | exact Take.self _ | apply Take.cons | apply Out.there | apply Take.skip | exact Take.pre _ _ | apply Out.app)⟩
      · try simp only [decide_eq_true_eq, decide_eq_false_iff_not, Bool.not_eq_true', Bool.not_eq_false', beq_iff_eq, bne_iff_ne, beq_eq_false_iff_ne, bne_eq_false_iff_eq, Int.not_lt, Int.not_le, gt_iff_lt, ge_iff_le, ne_eq] at h3
        refine XL_det (.yes 17 rfl rfl rfl) (D_pure rfl) rfl ?_
        refine XL_det (.yes 17 rfl rfl rfl) (D_pure rfl) rfl ?_
        refine XL_det .no (D_pure rfl) rfl ?_
        refine XL_then ?_
        refine X_cond rfl (fun h4 => ?_) (fun h4 => ?_)
        · try simp only [decide_eq_true_eq, decide_eq_false_iff_not, Bool.not_eq_true', Bool.not_eq_false', beq_iff_eq, bne_iff_ne, beq_eq_false_iff_ne, bne_eq_false_iff_eq, Int.not_lt, Int.not_le, gt_iff_lt, ge_iff_le, ne_eq] at h4
          refine X_seq ?_
          refine X_region ?_
          refine XL_det .no (D_pure rfl) rfl ?_
          refine XL_then ?_
          refine X_ret ?_
          refine thenX_ret ?_
          refine ret_ok (.nil _) (res_tmp rfl rfl) ?_
          exact ⟨_, ⟨by rw [(put_no (r := r) (by omega)).1], by rw [(put_no (r := r) (by omega)).2]⟩, _, (by with_reducible repeat first | exact .nil _ | exact .here _ _ | exact Take.self _ | apply Take.cons | apply Out.there | apply Take.skip | exact Take.pre _ _ | apply Out.app)⟩
        · try simp only [decide_eq_true_eq, decide_eq_false_iff_not, Bool.not_eq_true', Bool.not_eq_false', beq_iff_eq, bne_iff_ne, beq_eq_false_iff_ne, bne_eq_false_iff_eq, Int.not_lt, Int.not_le, gt_iff_lt, ge_iff_le, ne_eq] at h4
          obtain ⟨k, rfl⟩ := Int.eq_ofNat_of_zero_le (a := n) (by omega)
          obtain ⟨j, rfl⟩ := Int.eq_ofNat_of_zero_le (a := l) (by omega)
          have hk : k < 32 := by omega
          have hj : j < 32 := by omega
          refine X_skip ?_
          refine thenX_normal ?_
          refine X_seq ?_
          refine X_region ?_
          refine XL_det .no (D_pure rfl) rfl ?_
          refine XL_det .no (D_pure rfl) rfl ?_
          refine XL_call .no en_59 rfl (rdrop q te Lp Lq hL r hr k hK) (by with_reducible repeat first | exact .nil _ | exact .here _ _ | exact Take.self _ | apply Take.cons | apply Out.there | apply Take.skip | exact Take.pre _ _ | apply Out.app) rfl ?_
          rintro _ _ ⟨rfl, rfl⟩
          simp only [List.cons_append, List.nil_append]
          rw [drop_in hk]
          refine XL_then ?_
          refine X_seq ?_
          refine X_draw _ mixed (Take.self _) ?_
          refine XA_detp 0 rfl (by kernel_rfl) (by kernel_rfl) (by kernel_rfl) (fun _ _ _ _ h => h) .no (D_pureP rfl) rfl ?_
          refine XA_detp 1 rfl (by kernel_rfl) (by kernel_rfl) (by kernel_rfl) (fun _ _ _ _ h => h) .no (D_pureP rfl) rfl ?_
          refine XA_detp 2 rfl (by kernel_rfl) (by kernel_rfl) (by kernel_rfl) (fun _ _ _ _ h => h) .no (D_pureP rfl) rfl ?_
          refine XA_detp 3 rfl (by kernel_rfl) (by kernel_rfl) (by kernel_rfl) (fun _ _ _ _ h => h) .no (D_pureP rfl) rfl ?_
          refine XA_detp 4 rfl (by kernel_rfl) (by kernel_rfl) (by kernel_rfl) (fun _ _ _ _ h => h) .no (D_nilckP rfl) rfl ?_
          refine XA_detp 5 rfl (by kernel_rfl) (by kernel_rfl) (by kernel_rfl) (fun _ _ _ _ h => h) .no (D_fldP rfl fld_108_1 (o' := 98) rfl) rfl ?_
          refine XA_detp 6 rfl (by kernel_rfl) (by kernel_rfl) (by kernel_rfl) (fun _ _ _ _ h => h) .no (D_idxAP rfl rfl arr_106 rfl (by omega) rfl) rfl ?_
          refine XA_det 7 rfl (by kernel_rfl) (by kernel_rfl) (by kernel_rfl) (by kernel_rfl) (fun _ _ _ _ h => h) .no (D_ldo rfl (by with_reducible repeat first | exact .here _ _ | apply Out.there | apply Out.app) tk_37 (cq_at hL (by omega))) rfl ?_
          refine XA_detp 8 rfl (by kernel_rfl) (by kernel_rfl) (by kernel_rfl) (fun _ _ _ _ h => h) .no (D_pureP rfl) rfl ?_
          refine XA_detp 10 rfl (by kernel_rfl) (by kernel_rfl) (by kernel_rfl) (fun _ _ _ _ h => h) .no (D_nilckP rfl) rfl ?_
          refine XA_detp 11 rfl (by kernel_rfl) (by kernel_rfl) (by kernel_rfl) (fun _ _ _ _ h => h) .no (D_fldP rfl fld_108_1 (o' := 98) rfl) rfl ?_
          refine XA_one 9 (by kernel_rfl) ?_
          refine XO_callv rfl .no en_51 rfl (mWith (atR (upd r k 0) j) k) rfl ?_
          refine XA_detp 12 rfl (by kernel_rfl) (by kernel_rfl) (by kernel_rfl) (fun _ _ _ _ h => h) .no (D_idxAP rfl rfl arr_106 rfl (by omega) rfl) rfl ?_
          refine XA_one 13 (by kernel_rfl) ?_
          refine XO_efd rfl .no (by with_reducible repeat first | exact .nil _ | apply App.cons) (F_st (k := 98 + j * 1) (cs' := Lp ++ (qc (someR (upd r k 0)) (upd (atR (upd r k 0)) j (atR (upd r k 0) j ||| bitv k)) (allR (upd r k 0)) ++ Lq)) rfl rfl rfl (by with_reducible repeat first | exact .here _ _ | apply Out.there | apply Out.app) tk_37 (cq_lt hL (by omega)) (cq_seta hL (by omega) _)) (by kernel_rfl) ?_
          refine XA_done (by kernel_rfl) ?_
          try simp only [List.cons_append, List.nil_append, List.append_nil]
          refine thenX_normal ?_
          refine X_seq ?_
          refine X_region ?_
          refine XL_det .no (D_pure rfl) rfl ?_
          refine XL_det .no (D_pure rfl) rfl ?_
          refine XL_det .no (D_nilck rfl) rfl ?_
          refine XL_det .no (D_fld rfl fld_108_0 (o' := 97) rfl) rfl ?_
          refine XL_det .no (D_ldo rfl (by with_reducible repeat first | exact .here _ _ | apply Out.there | apply Out.app) tk_37 (cq_some hL)) rfl ?_
          refine XL_det .no (D_pure rfl) rfl ?_
          refine XL_callv .no en_51 rfl (mWith (someR (upd r k 0)) j) rfl ?_
          refine XL_det .no (D_nilck rfl) rfl ?_
          refine XL_det .no (D_fld rfl fld_108_0 (o' := 97) rfl) rfl ?_
          refine XL_efd .no (F_st (k := 97) (cs' := Lp ++ (qc (someR (upd r k 0) ||| bitv j) (upd (atR (upd r k 0)) j (atR (upd r k 0) j ||| bitv k)) (allR (upd r k 0)) ++ Lq)) rfl rfl rfl (by with_reducible repeat first | exact .here _ _ | apply Out.there | apply Out.app) tk_37 (cq_lt hL (by omega)) (cq_sets hL _)) ?_
          refine XL_then ?_
          refine X_seq ?_
          refine X_region ?_
          refine XL_det .no (D_pure rfl) rfl ?_
          refine XL_det .no (D_pure rfl) rfl ?_
          refine XL_det .no (D_nilck rfl) rfl ?_
          refine XL_det .no (D_fld rfl fld_108_2 (o' := 130) rfl) rfl ?_
          refine XL_det .no (D_ldo rfl (by with_reducible repeat first | exact .here _ _ | apply Out.there | apply Out.app) tk_37 (cq_all hL)) rfl ?_
          refine XL_det .no (D_pure rfl) rfl ?_
          refine XL_callv .no en_51 rfl (mWith (allR (upd r k 0)) k) rfl ?_
          refine XL_det .no (D_nilck rfl) rfl ?_
          refine XL_det .no (D_fld rfl fld_108_2 (o' := 130) rfl) rfl ?_
          refine XL_efd .no (F_st (k := 130) (cs' := Lp ++ (qc (someR (upd r k 0) ||| bitv j) (upd (atR (upd r k 0)) j (atR (upd r k 0) j ||| bitv k)) (allR (upd r k 0) ||| bitv k) ++ Lq)) rfl rfl rfl (by with_reducible repeat first | exact .here _ _ | apply Out.there | apply Out.app) tk_37 (cq_lt hL (by omega)) (cq_setl hL _)) ?_
          refine XL_then ?_
          refine X_seq ?_
          refine X_region ?_
          refine XL_det .no (D_pure rfl) rfl ?_
          refine XL_then ?_
          refine X_ret ?_
          refine ret_ok (.nil _) (res_tmp rfl rfl) ?_
          rw [← qR_put hk hj]
          exact ⟨_, ⟨by rw [(put_in (r := r) hk hj).1], rfl⟩, _, (by with_reducible repeat first | exact .nil _ | exact .here _ _ | exact Take.self _ | apply Take.cons | apply Out.there | apply Take.skip | exact Take.pre _ _ | apply Out.app)⟩

theorem rfirst (q te : Nat) (Lp Lq : List Value) (hL : Lp.length = 97) (r : Nat → Int) (hr : rOk r) (hK : Rd K ⟨0, 0, none⟩ (tab32.map fun m => .int .u8 m)) : Ctr Tryd.prog B 53 [.pointer (some ⟨q, 97, none⟩)] [blk q (Lp ++ (qR r ++ Lq)) te, K] (fun v S => v = .tuple #[.int .i64 (firstR r).1, .bool (firstR r).2] ∧ S = [blk q (Lp ++ (qR r ++ Lq)) te, K]) := by
  refine Ctr_of_X (N := 25) Tryd.func53 rfl (by simp) rfl ?_
  intro w0 D0
  refine X_seq ?_
  refine X_region ?_
  refine XL_det .no (D_pure rfl) rfl ?_
  refine XL_det .no (D_pure rfl) rfl ?_
  refine XL_then ?_
  refine X_seq ?_
  refine X_region ?_
  refine XL_det .no (D_pure rfl) rfl ?_
  refine XL_det .no (D_nilck rfl) rfl ?_
  refine XL_det .no (D_fld rfl fld_108_0 (o' := 97) rfl) rfl ?_
  refine XL_det .no (D_ldo rfl (by with_reducible repeat first | exact .here _ _ | apply Out.there | apply Out.app) tk_37 (cq_some hL)) rfl ?_
  refine XL_callk .no en_25 rfl (mFirst (someR r) hK) (by with_reducible repeat first | exact .nil _ | exact .here _ _ | exact Take.self _ | apply Take.cons | apply Out.there | apply Take.skip | exact Take.pre _ _ | apply Out.app) rfl ?_
  refine XL_det .no (D_pure rfl) rfl ?_
  refine XL_det .no (D_pure (v := .int .i64 (if someR r = 0#32 then 0 else (leastN (someR r) : Int))) rfl) rfl ?_
  refine XL_det .no (D_pure (v := .bool (decide (someR r ≠ 0#32))) rfl) rfl ?_
  refine XL_det .no (D_pure rfl) rfl ?_
  refine XL_det .no (D_pure rfl) rfl ?_
  refine XL_then ?_
  refine X_seq ?_
  refine X_seq ?_
  refine X_region ?_
  refine XL_det .no (D_pure rfl) rfl ?_
  refine XL_det .no (D_pure rfl) rfl ?_
  refine XL_then ?_
  refine X_cond rfl (fun h1 => ?_) (fun h1 => ?_)
  · try simp only [decide_eq_true_eq, decide_eq_false_iff_not, Bool.not_eq_true', Bool.not_eq_false', beq_iff_eq, bne_iff_ne, beq_eq_false_iff_ne, bne_eq_false_iff_eq, Int.not_lt, Int.not_le, gt_iff_lt, ge_iff_le, ne_eq] at h1
    have hs : someR r = 0#32 := by simpa using h1
    refine X_seq ?_
    refine X_region ?_
    refine XL_det .no (D_pure rfl) rfl ?_
    refine XL_det .no (D_pure rfl) rfl ?_
    refine XL_then ?_
    refine X_ret ?_
    refine thenX_ret ?_
    refine ret_ok (.nil _) (res_tmp2 rfl rfl rfl) ?_
    exact ⟨_, ⟨by rw [firstR, some_zero hs], rfl⟩, _, (by with_reducible repeat first | exact .nil _ | exact .here _ _ | exact Take.self _ | apply Take.cons | apply Out.there | apply Take.skip | exact Take.pre _ _ | apply Out.app)⟩
  · try simp only [decide_eq_true_eq, decide_eq_false_iff_not, Bool.not_eq_true', Bool.not_eq_false', beq_iff_eq, bne_iff_ne, beq_eq_false_iff_ne, bne_eq_false_iff_eq, Int.not_lt, Int.not_le, gt_iff_lt, ge_iff_le, ne_eq] at h1
    have hs : someR r ≠ 0#32 := by simpa using h1
    obtain ⟨hl1, hl2, hl3⟩ := least_spec hs
    have hat := at_ne hl1 hl2
    obtain ⟨tl, hg⟩ := goes_head hs
    rw [if_neg hs]
    refine X_skip ?_
    refine thenX_normal ?_
    refine X_seq ?_
    refine X_region ?_
    refine XL_det .no (D_pure rfl) rfl ?_
    refine XL_det .no (D_pure rfl) rfl ?_
    refine XL_det .no (D_nilck rfl) rfl ?_
    refine XL_det .no (D_fld rfl fld_108_1 (o' := 98) rfl) rfl ?_
    refine XL_det .no (D_idxA rfl rfl arr_106 rfl (by omega) rfl) rfl ?_
    refine XL_det .no (D_ldo rfl (by with_reducible repeat first | exact .here _ _ | apply Out.there | apply Out.app) tk_37 (cq_at hL (by omega))) rfl ?_
    refine XL_callk .no en_25 rfl (mFirst (atR r (leastN (someR r))) hK) (by with_reducible repeat first | exact .nil _ | exact .here _ _ | exact Take.self _ | apply Take.cons | apply Out.there | apply Take.skip | exact Take.pre _ _ | apply Out.app) rfl ?_
    rw [if_neg hat, decide_eq_true hat]
    refine XL_det .no (D_pure rfl) rfl ?_
    refine XL_det .no (D_pure rfl) rfl ?_
    refine XL_det .no (D_pure rfl) rfl ?_
    refine XL_det .no (D_pure rfl) rfl ?_
    refine XL_then ?_
    refine X_ret ?_
    refine ret_ok (.nil _) (res_tmp2 rfl rfl rfl) ?_
    exact ⟨_, ⟨by rw [firstR, hg]; rfl, rfl⟩, _, (by with_reducible repeat first | exact .nil _ | exact .here _ _ | exact Take.self _ | apply Take.cons | apply Out.there | apply Take.skip | exact Take.pre _ _ | apply Out.app)⟩

end Go.Proofs.YtkkdchgnknpceaaDoor
end

section
namespace Go.Proofs.YtkkdchgnknpceaaDoor
open Go Go.Sl
set_option linter.unusedVariables false
set_option linter.unusedSimpArgs false
set_option maxRecDepth 4000
variable {B : Nat} {K : Asrt B}
theorem en_54 : Go.Proofs.Enters Tryd.prog 54 := Go.Proofs.enters_of Tryd.func54 (by kernel_rfl) rfl
theorem en_79 : Go.Proofs.Enters Tryd.prog 79 := Go.Proofs.enters_of Tryd.func79 (by kernel_rfl) rfl
theorem en_80 : Go.Proofs.Enters Tryd.prog 80 := Go.Proofs.enters_of Tryd.func80 (by kernel_rfl) rfl
theorem en_98 : Go.Proofs.Enters Tryd.prog 98 := Go.Proofs.enters_of Tryd.func98 (by kernel_rfl) rfl
theorem fld_110_2 : fldOff Tryd.prog 110 2 = some 97 := by kernel_rfl
theorem fld_110_3 : fldOff Tryd.prog 110 3 = some 131 := by kernel_rfl
theorem fld_45_0 : fldOff Tryd.prog 45 0 = some 0 := by kernel_rfl

theorem flat_set1 {α : Type} {enc : α → List Value} {sz : Nat} (he : ∀ a, (enc a).length = sz) : ∀ (l : List α) (i k : Nat) (a b : α) (v : Value), l[i]? = some a → k < sz → (enc a).set k v = enc b → (l.flatMap enc).set (i * sz + k) v = (l.set i b).flatMap enc
  | [], _, _, _, _, _, h, _, _ => by simp at h
  | c :: l, 0, k, a, b, v, h, hk, hs => by
    simp at h; subst h
    rw [List.flatMap_cons, Nat.zero_mul, Nat.zero_add, List.set_append_left _ _ (by rw [he]; exact hk), hs]; rfl
  | c :: l, i + 1, k, a, b, v, h, hk, hs => by
    rw [List.flatMap_cons, List.set_append_right _ _ (by rw [he, Nat.succ_mul]; omega), he, show (i + 1) * sz + k - sz = i * sz + k by rw [Nat.succ_mul]; omega, flat_set1 he l i k a b v (by simpa using h) hk hs]; rfl
theorem flat_setN {α : Type} {enc : α → List Value} {sz : Nat} (he : ∀ a, (enc a).length = sz) : ∀ (l : List α) (i : Nat) (a b : α), l[i]? = some a → (l.flatMap enc).take (i * sz) ++ enc b ++ (l.flatMap enc).drop (i * sz + sz) = (l.set i b).flatMap enc
  | [], _, _, _, h => by simp at h
  | c :: l, 0, a, b, h => by
    rw [List.flatMap_cons, Nat.zero_mul, Nat.zero_add, List.take_zero, List.nil_append]
    conv => lhs; rw [← he c, List.drop_left]
    rfl
  | c :: l, i + 1, a, b, h => by
    have hi : (i + 1) * sz = (enc c).length + i * sz := by rw [he, Nat.succ_mul, Nat.add_comm]
    rw [List.flatMap_cons, hi, List.take_length_add_append, show (enc c).length + i * sz + sz = (enc c).length + (i * sz + sz) by omega, List.drop_length_add_append, List.append_assoc, List.append_assoc, ← List.append_assoc ((l.flatMap enc).take (i * sz)), flat_setN he l i a b (by simpa using h)]; rfl
theorem mapr_get {α : Type} {n i : Nat} {f : Nat → α} (h : i < n) : ((List.range n).map f)[i]? = some (f i) := by simp [h]
theorem mapr_set {α : Type} {n i : Nat} {f : Nat → α} {b : α} : ((List.range n).map f).set i b = (List.range n).map (upd f i b) := by
  apply List.ext_getElem?; intro j
  by_cases hj : j < n
  · by_cases e : i = j
    · subst e; simp [hj, upd]
    · rw [List.getElem?_set_ne e, mapr_get hj, mapr_get hj, upd_ne _ _ (Ne.symm e)]
  · rw [List.getElem?_eq_none (by simp; omega), List.getElem?_eq_none (by simp; omega)]
/-- A job, as the core keeps it. -/
structure JC where
  id : Int
  rel : Int
  dl : Int
  cost : Int
  done : Int
  secs : Arr Sec
abbrev encJ (j : JC) : List Value := [.int .i64 j.id, .int .i64 j.rel, .int .i64 j.dl, .int .i64 j.cost, .int .i64 j.done, .slice j.secs.oad j.secs.l.length j.secs.c]
abbrev JC.v (j : JC) : Value := jobV j.id j.rel j.dl j.cost j.done j.secs
abbrev jobsL (jf : Nat → JC) : List Value := ((List.range 16).map jf).flatMap encJ
theorem encJ_len : ∀ j : JC, (encJ j).length = 6 := fun _ => rfl
theorem jobs_len (jf : Nat → JC) : (jobsL jf).length = 96 := by rw [flat_len encJ_len]; simp
/-- A core. -/
structure Cr where
  jf : Nat → JC
  live : BitVec 32
  r : Nat → Int
  tab : Nat → Int
  now : Int
abbrev preC (s : Cr) : List Value := jobsL s.jf ++ [.int .u32 s.live.toNat]
abbrev postC (s : Cr) : List Value := rowI 8 s.tab ++ [.int .i64 s.now]
abbrev crC (s : Cr) : List Value := preC s ++ (qR s.r ++ postC s)
theorem pre_len (s : Cr) : (preC s).length = 97 := by rw [List.length_append, jobs_len]; rfl
theorem len_app (xs ys : List Value) : (xs ++ ys).length = xs.length + ys.length := List.length_append
theorem cr_len (s : Cr) : (crC s).length = 140 := by
  rw [len_app (preC s), pre_len, len_app (qR s.r), qc_len, len_app (rowI 8 s.tab), rowF_len]; rfl
theorem cr_live (s : Cr) : (crC s)[96]? = some (.int .u32 s.live.toNat) := app_get1 (app_get2 (n := 96) (k := 0) (jobs_len _) rfl)
theorem cr_now (s : Cr) : (crC s)[139]? = some (.int .i64 s.now) := app_get2 (n := 97) (k := 42) (pre_len s) (app_get2 (n := 34) (k := 8) (qc_len _ _ _) (app_get2 (n := 8) (k := 0) (rowF_len _ _ _) rfl))
theorem drop_app {xs ys : List Value} {n k : Nat} (h : xs.length = n) : (xs ++ ys).drop (n + k) = ys.drop k := by subst h; rw [← List.drop_drop, List.drop_left]
theorem cr_tab (s : Cr) : ((crC s).drop 131).take 8 = rowI 8 s.tab := by
  rw [show 131 = 97 + (34 + 0) from rfl, drop_app (pre_len s), drop_app (qc_len _ _ _), List.drop_zero, List.take_left' (rowF_len _ _ _)]
theorem cr_fld (s : Cr) {i k : Nat} {v : Value} (hi : i < 16) (h : (encJ (s.jf i))[k]? = some v) : (crC s)[0 + i * 6 + k]? = some v := by
  have hk : k < 6 := (List.getElem?_eq_some_iff.1 h).1
  rw [Nat.zero_add]
  exact app_get1 (app_get1 (by rw [flat_get encJ_len _ i k (s.jf i) (mapr_get hi) hk]; exact h))
theorem cr_job (s : Cr) {i : Nat} (hi : i < 16) : ((crC s).drop (0 + i * 6)).take 6 = encJ (s.jf i) := by
  apply List.ext_getElem?; intro k
  rcases Nat.lt_or_ge k 6 with hk | hk
  · rw [List.getElem?_take_of_lt hk, List.getElem?_drop]
    obtain ⟨v, hv⟩ : ∃ v, (encJ (s.jf i))[k]? = some v := ⟨_, List.getElem?_eq_getElem hk⟩
    rw [hv]; exact cr_fld s hi hv
  · rw [List.getElem?_eq_none (by rw [List.length_take]; omega), List.getElem?_eq_none (by show 6 ≤ k; exact hk)]
theorem cr_setlive (s : Cr) (v : BitVec 32) : (crC s).set 96 (.int .u32 v.toNat) = crC { s with live := v } := by
  rw [app_set1 (by rw [pre_len]; omega)]
  have := app_set2 (k := 0) (v := .int .u32 v.toNat) (ys := [.int .u32 s.live.toNat]) (jobs_len s.jf)
  rw [Nat.add_zero] at this; rw [this]; rfl
theorem cr_setnow (s : Cr) (v : Int) : (crC s).set 139 (.int .i64 v) = crC { s with now := v } := by
  have h1 := app_set2 (k := 42) (v := .int .i64 v) (ys := qR s.r ++ postC s) (pre_len s)
  rw [show 97 + 42 = 139 from rfl] at h1; rw [h1]
  have h2 := app_set2 (k := 8) (v := .int .i64 v) (ys := postC s) (qc_len (someR s.r) (allR s.r) (atR s.r))
  rw [show 34 + 8 = 42 from rfl] at h2; rw [h2]
  have h3 := app_set2 (k := 0) (v := .int .i64 v) (ys := [.int .i64 s.now]) (rowF_len (fun m => .int .i64 m) 8 s.tab)
  rw [show 8 + 0 = 8 from rfl] at h3; rw [h3]; rfl
theorem cr_ststab (s : Cr) (t : Nat → Int) : (crC s).take 131 ++ rowI 8 t ++ (crC s).drop (131 + 8) = crC { s with tab := t } := by
  have h1 : (crC s).drop (131 + 8) = [.int .i64 s.now] := by
    rw [show 131 + 8 = 97 + (34 + (8 + 0)) from rfl, drop_app (pre_len s), drop_app (qc_len _ _ _), drop_app (rowF_len _ _ _)]; rfl
  have h2 : (crC s).take 131 = preC s ++ qR s.r := by
    have e : crC s = (preC s ++ qR s.r) ++ postC s := (List.append_assoc (preC s) _ _).symm
    rw [e]; exact List.take_left' (by rw [List.length_append, pre_len, qc_len])
  rw [h1, h2]; simp only [List.append_assoc]
theorem cr_stsjob (s : Cr) {i : Nat} (hi : i < 16) (j : JC) : (crC s).take (0 + i * 6) ++ encJ j ++ (crC s).drop (0 + i * 6 + 6) = crC { s with jf := upd s.jf i j } := by
  have hl := jobs_len s.jf
  have e : crC s = jobsL s.jf ++ ([.int .u32 s.live.toNat] ++ (qR s.r ++ postC s)) := List.append_assoc (jobsL s.jf) _ _
  have hle : i * 6 + 6 ≤ 96 := by omega
  rw [Nat.zero_add, e, List.take_append_of_le_length (by omega), List.drop_append_of_le_length (by omega)]
  have := flat_setN encJ_len _ i (s.jf i) j (mapr_get (n := 16) hi)
  rw [mapr_set] at this
  rw [← List.append_assoc, this]
  exact (List.append_assoc (jobsL (upd s.jf i j)) _ _).symm
theorem cr_setdone (s : Cr) {i : Nat} (hi : i < 16) (d : Int) : (crC s).set (0 + i * 6 + 4) (.int .i64 d) = crC { s with jf := upd s.jf i { s.jf i with done := d } } := by
  have hl := jobs_len s.jf
  rw [Nat.zero_add, app_set1 (by rw [pre_len]; omega), app_set1 (by rw [hl]; omega), flat_set1 encJ_len _ i 4 (s.jf i) { s.jf i with done := d } _ (mapr_get (n := 16) hi) (by omega) rfl, mapr_set]
theorem cr_lt (s : Cr) {k : Nat} (h : k < 140) : Nat.blt k (crC s).length = true := by rw [cr_len]; simp; omega
/-- What it holds between two ticks, and takes in the next one. -/
def hold (l : List Sec) (d : Int) : Int := resOf (l.find? (holdsP d))
def takeR (l : List Sec) (d : Int) : Int := resOf (l.find? (takesP d))
/-- At which level it is ready. -/
def levC (tab : Nat → Int) (id d : Int) (l : List Sec) : Int := if hold l d < 0 then 2 * id + 1 else 2 * levelV tab id (hold l d)
abbrev JC.lev (tab : Nat → Int) (j : JC) : Int := levC tab j.id j.done j.secs.l
theorem at_in {tab : Nat → Int} (ht : ∀ r : Nat, r < 8 → 0 ≤ tab r ∧ tab r ≤ 16) (r : Int) : 0 ≤ atV tab r ∧ atV tab r ≤ 16 := by
  unfold atV; split
  · exact ht _ (by omega)
  · omega
theorem lev_in {tab : Nat → Int} {id r : Int} (ht : ∀ r : Nat, r < 8 → 0 ≤ tab r ∧ tab r ≤ 16) (hid : 0 ≤ id ∧ id < 16) : 0 ≤ levelV tab id r ∧ levelV tab id r ≤ id := by
  unfold levelV; have := at_in ht r; split <;> omega
theorem levC_in {tab : Nat → Int} {id d : Int} {l : List Sec} (ht : ∀ r : Nat, r < 8 → 0 ≤ tab r ∧ tab r ≤ 16) (hid : 0 ≤ id ∧ id < 16) : 0 ≤ levC tab id d l ∧ levC tab id d l ≤ 2 * id + 1 := by
  unfold levC; have := lev_in (r := hold l d) ht hid; split <;> omega
abbrev rowS1 (j : JC) : Asrt B := row (.slice j.secs.oad j.secs.l.length j.secs.c) 123 3 j.secs.l.length (j.secs.l.flatMap encS)
abbrev rowS (jf : Nat → JC) (i : Nat) : Asrt B := rowS1 (jf i)
theorem rowS_upd (jf : Nat → JC) (i : Nat) (j : JC) : upd (rowS (B := B) jf) i (rowS1 j) = rowS (upd jf i j) := by
  funext k; by_cases e : k = i
  · subst e; rw [upd_same]; unfold rowS; rw [upd_same]
  · rw [upd_ne _ _ e]; unfold rowS; rw [upd_ne _ _ e]
theorem rowS_done (jf : Nat → JC) (i : Nat) (d : Int) : rowS (B := B) (upd jf i { jf i with done := d }) = rowS jf := by
  funext k; by_cases e : k = i
  · subst e; unfold rowS; rw [upd_same]
  · unfold rowS; rw [upd_ne _ _ e]
/-- What a core keeps to. -/
structure COk (s : Cr) : Prop where
  r : rOk s.r
  own : ∀ i, i < 16 → (s.jf i).secs.Own
  tab : ∀ r : Nat, r < 8 → 0 ≤ s.tab r ∧ s.tab r ≤ 16
  live : ∀ i : Nat, hasB s.live (i : Int) = true → i < 16 ∧ (s.jf i).id = i ∧ 0 ≤ (s.jf i).done ∧ (s.jf i).done ≤ 100000000 ∧ 0 ≤ (s.jf i).cost ∧ (s.jf i).cost ≤ 100000000 ∧ -1000000000 ≤ (s.jf i).rel ∧ (s.jf i).rel ≤ 1000000000
  now : 0 ≤ s.now ∧ s.now ≤ 1000000000
  rl : ∀ n : Nat, n < 32 → s.r n = if hasB s.live (n : Int) then (s.jf n).lev s.tab + 1 else 0

theorem jhold {Kj : Asrt B} (j : JC) (hj : Rd Kj j.secs.ad (j.secs.l.flatMap encS)) : Ctr Tryd.prog B 54 [j.v] [Kj] (fun v S => v = .int .i64 (hold j.secs.l j.done) ∧ S = [Kj]) := jholds _ _ _ _ j.done j.secs hj

theorem jtake {Kj : Asrt B} (j : JC) (hj : Rd Kj j.secs.ad (j.secs.l.flatMap encS)) : Ctr Tryd.prog B 55 [j.v] [Kj] (fun v S => v = .int .i64 (takeR j.secs.l j.done) ∧ S = [Kj]) := jtakes _ _ _ _ j.done j.secs hj

theorem slevel (c : Nat) (s : Cr) {Kj : Asrt B} (j : JC) (hj : Rd Kj j.secs.ad (j.secs.l.flatMap encS)) (ht : ∀ r : Nat, r < 8 → 0 ≤ s.tab r ∧ s.tab r ≤ 16) (hid : 0 ≤ j.id ∧ j.id < 16) : Ctr Tryd.prog B 80 [.pointer (some ⟨c, 0, none⟩), j.v] [blk c (crC s) 110, Kj] (fun v S => v = .int .i64 (j.lev s.tab) ∧ S = [blk c (crC s) 110, Kj]) := by
  refine Ctr_of_X (N := 23) Tryd.func80 rfl (by simp) rfl ?_
  intro w0 D0
  refine X_seq ?_
  refine X_region ?_
  refine XL_box (cs := encJ j) .no rfl rfl rfl (fun b1 => ?_)
  refine XL_det .no (D_pure rfl) rfl ?_
  refine XL_then ?_
  refine X_seq ?_
  refine X_region ?_
  refine XL_det .no (D_ldso (vs := encJ j) rfl (by with_reducible repeat first | exact .here _ _ | apply Out.there | apply Out.app) tk_45 rfl (by rfl)) rfl ?_
  refine XL_callk .no en_54 rfl (jhold j hj) (by with_reducible repeat first | exact .nil _ | exact .here _ _ | exact Take.self _ | apply Take.cons | apply Out.there | apply Take.skip | exact Take.pre _ _ | apply Out.app) rfl ?_
  refine XL_det .no (D_pure rfl) rfl ?_
  refine XL_then ?_
  refine X_seq ?_
  refine X_seq ?_
  refine X_region ?_
  refine XL_det .no (D_pure rfl) rfl ?_
  refine XL_det .no (D_pure rfl) rfl ?_
  refine XL_then ?_
  refine X_cond rfl (fun h1 => ?_) (fun h1 => ?_)
  · try simp only [decide_eq_true_eq, decide_eq_false_iff_not, Bool.not_eq_true', Bool.not_eq_false', beq_iff_eq, bne_iff_ne, beq_eq_false_iff_ne, bne_eq_false_iff_eq, Int.not_lt, Int.not_le, gt_iff_lt, ge_iff_le, ne_eq] at h1
    refine X_seq ?_
    refine X_region ?_
    refine XL_det .no (D_fld rfl fld_45_0 (o' := 0) rfl) rfl ?_
    refine XL_det .no (D_ldo rfl (by with_reducible repeat first | exact .here _ _ | apply Out.there | apply Out.app) tk_3 (by rfl)) rfl ?_
    refine XL_det .no (D_mul rfl rfl (by omega) (by omega)) rfl ?_
    refine XL_det .no (D_add rfl rfl (by omega) (by omega)) rfl ?_
    refine XL_det .no (D_pure rfl) rfl ?_
    refine XL_then ?_
    refine X_ret ?_
    refine thenX_ret ?_
    refine ret_ok (.nil _) (res_tmp rfl rfl) ?_
    exact ⟨_, ⟨by unfold JC.lev levC; rw [if_pos (by omega)], rfl⟩, _, (by with_reducible repeat first | exact .nil _ | exact .here _ _ | exact Take.self _ | apply Take.cons | apply Out.there | apply Take.skip | exact Take.pre _ _ | apply Out.app)⟩
  · try simp only [decide_eq_true_eq, decide_eq_false_iff_not, Bool.not_eq_true', Bool.not_eq_false', beq_iff_eq, bne_iff_ne, beq_eq_false_iff_ne, bne_eq_false_iff_eq, Int.not_lt, Int.not_le, gt_iff_lt, ge_iff_le, ne_eq] at h1
    have hlv := lev_in (r := hold j.secs.l j.done) ht hid
    refine X_skip ?_
    refine thenX_normal ?_
    refine X_seq ?_
    refine X_draw [blk b1 (encJ j) 45, blk c (crC s) 110] mixed (by with_reducible repeat first | exact .nil _ | exact .here _ _ | exact Take.self _ | apply Take.cons | apply Out.there | apply Take.skip | exact Take.pre _ _ | apply Out.app) ?_
    refine XA_detp 0 rfl (by kernel_rfl) (by kernel_rfl) (by kernel_rfl) (fun _ _ _ _ h => h) .no (D_pureP rfl) rfl ?_
    refine XA_detp 1 rfl (by kernel_rfl) (by kernel_rfl) (by kernel_rfl) (fun _ _ _ _ h => h) .no (D_nilckP rfl) rfl ?_
    refine XA_detp 2 rfl (by kernel_rfl) (by kernel_rfl) (by kernel_rfl) (fun _ _ _ _ h => h) .no (D_fldP rfl fld_110_3 (o' := 131) rfl) rfl ?_
    refine XA_det 3 rfl (by kernel_rfl) (by kernel_rfl) (by kernel_rfl) (by kernel_rfl) (fun _ _ _ _ h => h) .no (D_ldso (vs := rowI 8 s.tab) rfl (by with_reducible repeat first | exact .here _ _ | apply Out.there | apply Out.app) tk_34 (by rw [cr_len]; rfl) (cr_tab _)) rfl ?_
    refine XA_detp 4 rfl (by kernel_rfl) (by kernel_rfl) (by kernel_rfl) (fun _ _ _ _ h => h) .no (D_fldP rfl fld_45_0 (o' := 0) rfl) rfl ?_
    refine XA_det 5 rfl (by kernel_rfl) (by kernel_rfl) (by kernel_rfl) (by kernel_rfl) (fun _ _ _ _ h => h) .no (D_ldo rfl (by with_reducible repeat first | exact .here _ _ | apply Out.there | apply Out.app) tk_3 (by rfl)) rfl ?_
    refine XA_detp 6 rfl (by kernel_rfl) (by kernel_rfl) (by kernel_rfl) (fun _ _ _ _ h => h) .no (D_pureP rfl) rfl ?_
    refine XA_one 7 (by kernel_rfl) ?_
    refine XO_callv rfl .no en_98 rfl (clevel s.tab j.id (hold j.secs.l j.done)) rfl ?_
    refine XA_det 8 rfl (by kernel_rfl) (by kernel_rfl) (by kernel_rfl) (by kernel_rfl) (fun _ _ _ _ h => h) .no (D_mul rfl rfl (by omega) (by omega)) rfl ?_
    refine XA_detp 9 rfl (by kernel_rfl) (by kernel_rfl) (by kernel_rfl) (fun _ _ _ _ h => h) .no (D_pureP rfl) rfl ?_
    refine XA_done (by kernel_rfl) ?_
    try simp only [List.cons_append, List.nil_append, List.append_nil]
    refine thenX_normal ?_
    refine X_ret ?_
    refine ret_ok (.nil _) (res_tmp rfl rfl) ?_
    exact ⟨_, ⟨by unfold JC.lev levC; rw [if_neg (by omega)], rfl⟩, _, (by with_reducible repeat first | exact .nil _ | exact .here _ _ | exact Take.self _ | apply Take.cons | apply Out.there | apply Take.skip | exact Take.pre _ _ | apply Out.app)⟩

theorem slay (c : Nat) (s : Cr) {Kj : Asrt B} (j : JC) (hj : Rd Kj j.secs.ad (j.secs.l.flatMap encS)) (ht : ∀ r : Nat, r < 8 → 0 ≤ s.tab r ∧ s.tab r ≤ 16) (hr : rOk s.r) (hid : 0 ≤ j.id ∧ j.id < 16) (hK : Rd K ⟨0, 0, none⟩ (tab32.map fun m => .int .u8 m)) : Ctr Tryd.prog B 48 [.pointer (some ⟨c, 0, none⟩), j.v] [blk c (crC s) 110, Kj, K] (fun v S => v = .tuple #[] ∧ S = [blk c (crC ({ s with r := putR s.r j.id (j.lev s.tab) } : Cr)) 110, Kj, K]) := by
  refine Ctr_of_X (N := 13) Tryd.func48 rfl (by simp) rfl ?_
  intro w0 D0
  refine X_seq ?_
  refine X_region ?_
  refine XL_box (cs := encJ j) .no rfl rfl rfl (fun b1 => ?_)
  refine XL_then ?_
  refine X_draw [blk b1 (encJ j) 45] mixed (by with_reducible repeat first | exact .nil _ | exact .here _ _ | exact Take.self _ | apply Take.cons | apply Out.there | apply Take.skip | exact Take.pre _ _ | apply Out.app) ?_
  refine XA_detp 0 rfl (by kernel_rfl) (by kernel_rfl) (by kernel_rfl) (fun _ _ _ _ h => h) .no (D_pureP rfl) rfl ?_
  refine XA_detp 1 rfl (by kernel_rfl) (by kernel_rfl) (by kernel_rfl) (fun _ _ _ _ h => h) .no (D_nilckP rfl) rfl ?_
  refine XA_detp 2 rfl (by kernel_rfl) (by kernel_rfl) (by kernel_rfl) (fun _ _ _ _ h => h) .no (D_fldP rfl fld_110_2 (o' := 97) rfl) rfl ?_
  refine XA_detp 3 rfl (by kernel_rfl) (by kernel_rfl) (by kernel_rfl) (fun _ _ _ _ h => h) .no (D_fldP rfl fld_45_0 (o' := 0) rfl) rfl ?_
  refine XA_det 4 rfl (by kernel_rfl) (by kernel_rfl) (by kernel_rfl) (by kernel_rfl) (fun _ _ _ _ h => h) .no (D_ldo rfl (by with_reducible repeat first | exact .here _ _ | apply Out.there | apply Out.app) tk_3 (by rfl)) rfl ?_
  refine XA_detp 5 rfl (by kernel_rfl) (by kernel_rfl) (by kernel_rfl) (fun _ _ _ _ h => h) .no (D_pureP rfl) rfl ?_
  refine XA_det 6 rfl (by kernel_rfl) (by kernel_rfl) (by kernel_rfl) (by kernel_rfl) (fun _ _ _ _ h => h) .no (D_ldso (vs := encJ j) rfl (by with_reducible repeat first | exact .here _ _ | apply Out.there | apply Out.app) tk_45 rfl (by rfl)) rfl ?_
  refine XA_one 7 (by kernel_rfl) ?_
  refine XO_callk rfl .no en_80 rfl (by with_reducible repeat first | exact .nil _ | apply App.cons) (slevel c s j hj ht hid) (by with_reducible repeat first | exact .nil _ | exact .here _ _ | exact Take.self _ | apply Take.cons | apply Out.there | apply Take.skip | exact Take.pre _ _ | apply Out.app) rfl ?_
  refine XA_one 8 (by kernel_rfl) ?_
  refine XO_callc rfl .no en_79 rfl (by with_reducible repeat first | exact .nil _ | apply App.cons) (rput c 110 (preC s) (postC s) (pre_len s) s.r hr j.id (j.lev s.tab) hK) (by with_reducible repeat first | exact .nil _ | exact .here _ _ | exact Take.self _ | apply Take.cons | apply Out.there | apply Take.skip | exact Take.pre _ _ | apply Out.app) rfl ?_
  rintro _ _ ⟨rfl, rfl⟩
  simp only [List.cons_append, List.nil_append]
  refine ⟨[blk c (preC s ++ (qR (putR s.r j.id (j.lev s.tab)) ++ postC s)) 110, Kj, K], _, _, (by with_reducible repeat first | exact .nil _ | apply App.cons), (by with_reducible repeat first | exact .nil _ | exact .here _ _ | exact Take.self _ | apply Take.cons | apply Out.there | apply Take.skip | exact Take.pre _ _ | apply Out.app), ?_⟩
  refine XA_done (by kernel_rfl) ?_
  try simp only [List.cons_append, List.nil_append, List.append_nil]
  refine ret_okn (.nil _) (res_none rfl) ?_
  exact ⟨_, ⟨rfl, rfl⟩, _, (by repeat first | (with_reducible first | exact .nil _ | exact .here _ _) | exact .here _ _ | (with_reducible first | exact Take.self _ | apply Take.cons | apply Out.there | apply Take.skip | exact Take.pre _ _ | apply Out.app))⟩

end Go.Proofs.YtkkdchgnknpceaaDoor
end

section
namespace Go.Proofs.YtkkdchgnknpceaaDoor
open Go Go.Sl
set_option linter.unusedVariables false
set_option linter.unusedSimpArgs false
set_option maxRecDepth 4000
variable {B : Nat} {K : Asrt B}
theorem arr_105 : arrOf Tryd.prog 105 = some (16, 6) := by kernel_rfl
theorem bld_110 : bldOf Tryd.prog 110 = some ([.int .i64 0, .int .i64 0, .int .i64 0, .int .i64 0, .int .i64 0, .slice none 0 0, .int .i64 0, .int .i64 0, .int .i64 0, .int .i64 0, .int .i64 0, .slice none 0 0, .int .i64 0, .int .i64 0, .int .i64 0, .int .i64 0, .int .i64 0, .slice none 0 0, .int .i64 0, .int .i64 0, .int .i64 0, .int .i64 0, .int .i64 0, .slice none 0 0, .int .i64 0, .int .i64 0, .int .i64 0, .int .i64 0, .int .i64 0, .slice none 0 0, .int .i64 0, .int .i64 0, .int .i64 0, .int .i64 0, .int .i64 0, .slice none 0 0, .int .i64 0, .int .i64 0, .int .i64 0, .int .i64 0, .int .i64 0, .slice none 0 0, .int .i64 0, .int .i64 0, .int .i64 0, .int .i64 0, .int .i64 0, .slice none 0 0, .int .i64 0, .int .i64 0, .int .i64 0, .int .i64 0, .int .i64 0, .slice none 0 0, .int .i64 0, .int .i64 0, .int .i64 0, .int .i64 0, .int .i64 0, .slice none 0 0, .int .i64 0, .int .i64 0, .int .i64 0, .int .i64 0, .int .i64 0, .slice none 0 0, .int .i64 0, .int .i64 0, .int .i64 0, .int .i64 0, .int .i64 0, .slice none 0 0, .int .i64 0, .int .i64 0, .int .i64 0, .int .i64 0, .int .i64 0, .slice none 0 0, .int .i64 0, .int .i64 0, .int .i64 0, .int .i64 0, .int .i64 0, .slice none 0 0, .int .i64 0, .int .i64 0, .int .i64 0, .int .i64 0, .int .i64 0, .slice none 0 0, .int .i64 0, .int .i64 0, .int .i64 0, .int .i64 0, .int .i64 0, .slice none 0 0, .int .u32 0, .int .u32 0, .int .u32 0, .int .u32 0, .int .u32 0, .int .u32 0, .int .u32 0, .int .u32 0, .int .u32 0, .int .u32 0, .int .u32 0, .int .u32 0, .int .u32 0, .int .u32 0, .int .u32 0, .int .u32 0, .int .u32 0, .int .u32 0, .int .u32 0, .int .u32 0, .int .u32 0, .int .u32 0, .int .u32 0, .int .u32 0, .int .u32 0, .int .u32 0, .int .u32 0, .int .u32 0, .int .u32 0, .int .u32 0, .int .u32 0, .int .u32 0, .int .u32 0, .int .u32 0, .int .u32 0, .int .i64 0, .int .i64 0, .int .i64 0, .int .i64 0, .int .i64 0, .int .i64 0, .int .i64 0, .int .i64 0, .int .i64 0], [(0, 96), (96, 1), (97, 34), (131, 8), (139, 1)]) := by kernel_rfl
theorem en_48 : Go.Proofs.Enters Tryd.prog 48 := Go.Proofs.enters_of Tryd.func48 (by kernel_rfl) rfl
theorem en_53 : Go.Proofs.Enters Tryd.prog 53 := Go.Proofs.enters_of Tryd.func53 (by kernel_rfl) rfl
theorem fld_110_0 : fldOff Tryd.prog 110 0 = some 0 := by kernel_rfl
theorem fld_110_1 : fldOff Tryd.prog 110 1 = some 96 := by kernel_rfl
theorem fld_110_4 : fldOff Tryd.prog 110 4 = some 139 := by kernel_rfl
theorem tk_30 : tyK Tryd.prog 30 = some (false, 1) := by kernel_rfl

theorem first_live {s : Cr} (h : COk s) (hf : (firstR s.r).2 = true) : ∃ k : Nat, k < 16 ∧ hasB s.live (k : Int) = true ∧ (firstR s.r).1 = k := by
  unfold firstR at hf ⊢
  cases hg : goes s.r with
  | nil => rw [hg] at hf; cases hf
  | cons p l =>
    have hm : p ∈ goes s.r := by rw [hg]; exact List.mem_cons_self ..
    obtain ⟨k, h1, h2, rfl⟩ := (mem_goes h.r).1 hm
    have h3 := h.rl k h1
    have hl : hasB s.live (k : Int) = true := by
      cases hb : hasB s.live (k : Int) with
      | true => rfl
      | false => rw [hb] at h3; exact absurd h3 h2
    exact ⟨k, (h.live k hl).1, hl, rfl⟩
/-- What happened in a tick. -/
structure Ran where
  task : Int
  took : Int
  gave : Int
  over : Bool
  within : Int
  late : Bool
abbrev encR (x : Ran) : List Value := [.int .i64 x.task, .int .i64 x.took, .int .i64 x.gave, .bool x.over, .int .i64 x.within, .bool x.late]
def tookC (j : JC) : Int := if takeR j.secs.l j.done ≥ 0 ∧ hold j.secs.l j.done < 0 then takeR j.secs.l j.done else -1
def gaveC (j : JC) : Int := if takeR j.secs.l j.done ≥ 0 ∧ hold j.secs.l (min (j.done + 1) j.cost) < 0 then takeR j.secs.l j.done else -1
abbrev stepJ (j : JC) : JC := { j with done := min (j.done + 1) j.cost }
/-- A tick goes by. -/
def tickC (s : Cr) : Cr × Ran :=
  if (firstR s.r).2 = true then
    let k := (firstR s.r).1.toNat
    if min ((s.jf k).done + 1) (s.jf k).cost ≥ (s.jf k).cost then
      (⟨upd s.jf k (stepJ (s.jf k)), s.live &&& ~~~(bitv k), dropR s.r k, s.tab, s.now + 1⟩, ⟨k, tookC (s.jf k), gaveC (s.jf k), true, s.now + 1 - (s.jf k).rel, decide (s.now + 1 > (s.jf k).dl)⟩)
    else (⟨upd s.jf k (stepJ (s.jf k)), s.live, putR s.r (s.jf k).id ((stepJ (s.jf k)).lev s.tab), s.tab, s.now + 1⟩, ⟨k, tookC (s.jf k), gaveC (s.jf k), false, 0, false⟩)
  else ({ s with now := s.now + 1 }, ⟨-1, -1, -1, false, 0, false⟩)
theorem tick_no {s : Cr} (h : (firstR s.r).2 = false) : tickC s = ({ s with now := s.now + 1 }, ⟨-1, -1, -1, false, 0, false⟩) := by unfold tickC; rw [if_neg (by rw [h]; decide)]
theorem tick_over {s : Cr} {k : Nat} (h : (firstR s.r).2 = true) (hk : (firstR s.r).1 = k) (ho : min ((s.jf k).done + 1) (s.jf k).cost ≥ (s.jf k).cost) :
    tickC s = (⟨upd s.jf k (stepJ (s.jf k)), s.live &&& ~~~(bitv k), dropR s.r k, s.tab, s.now + 1⟩, ⟨k, tookC (s.jf k), gaveC (s.jf k), true, s.now + 1 - (s.jf k).rel, decide (s.now + 1 > (s.jf k).dl)⟩) := by
  unfold tickC; rw [if_pos h, hk, Int.toNat_natCast, if_pos ho]
theorem tick_on {s : Cr} {k : Nat} (h : (firstR s.r).2 = true) (hk : (firstR s.r).1 = k) (ho : ¬ min ((s.jf k).done + 1) (s.jf k).cost ≥ (s.jf k).cost) :
    tickC s = (⟨upd s.jf k (stepJ (s.jf k)), s.live, putR s.r (s.jf k).id ((stepJ (s.jf k)).lev s.tab), s.tab, s.now + 1⟩, ⟨k, tookC (s.jf k), gaveC (s.jf k), false, 0, false⟩) := by
  unfold tickC; rw [if_pos h, hk, Int.toNat_natCast, if_neg ho]
/-- Other ceilings. -/
def relay (tab : Nat → Int) (jf : Nat → JC) (r : Nat → Int) (l : List Int) : Nat → Int := l.foldl (fun r i => putR r (jf i.toNat).id ((jf i.toNat).lev tab)) r
def ceilC (s : Cr) (t : Nat → Int) : Cr := { s with tab := t, r := relay t s.jf s.r (listI s.live) }
theorem relay_s {tab : Nat → Int} {jf : Nat → JC} {r : Nat → Int} {l : List Int} {i : Nat} {n : Int} (h : l[i]? = some n) : relay tab jf r (l.take (i + 1)) = putR (relay tab jf r (l.take i)) (jf n.toNat).id ((jf n.toNat).lev tab) := by
  unfold relay; rw [List.take_add_one, h, List.foldl_append]; rfl
theorem relay_ok {tab : Nat → Int} {jf : Nat → JC} {l : List Int} : ∀ {r : Nat → Int}, rOk r → rOk (relay tab jf r l) := by
  unfold relay
  induction l with
  | nil => exact fun h => h
  | cons a l ih => intro r h; rw [List.foldl_cons]; exact ih (putR_ok h)
/-- A job is there. -/
def relErr (s : Cr) (j : JC) : Int := if j.id < 0 ∨ j.id ≥ 16 ∨ j.done ≥ j.cost then 100 else if hasB s.live j.id then 242 else 0
def relC (s : Cr) (j : JC) (a : Arr Sec) : Cr := if relErr s j = 0 then ⟨upd s.jf j.id.toNat { j with secs := a }, s.live ||| bitv j.id, putR s.r j.id (levC s.tab j.id j.done a.l), s.tab, s.now⟩ else s
theorem cr_put (s : Cr) (r' : Nat → Int) : preC s ++ (qR r' ++ postC s) = crC { s with r := r' } := rfl
abbrev cr0 : Cr := ⟨fun _ => ⟨0, 0, 0, 0, 0, Arr.emp⟩, 0#32, fun _ => 0, fun _ => 16, 0⟩
theorem cr0_eq : crC cr0 = preC cr0 ++ (qc 0#32 (fun _ => 0#32) 0#32 ++ postC cr0) := by show preC cr0 ++ (qR (fun _ => 0) ++ postC cr0) = _; rw [qR_zero]

theorem snew  : Ctr Tryd.prog B 12 [] [] (fun v S => ∃ c, v = .pointer (some ⟨c, 0, none⟩) ∧ S = [blk c (crC (cr0)) 110, many 16 (rowS cr0.jf)]) := by
  refine Ctr_of_X (N := 4) Tryd.func12 rfl (by simp) rfl ?_
  intro w0 D0
  refine X_many_nil (n := 16) (e := 123) (sz := 3) ?_
  refine X_seq ?_
  refine X_region ?_
  refine XL_det .no (D_pure rfl) rfl ?_
  refine XL_then ?_
  refine X_seq ?_
  refine X_region ?_
  refine XL_callv .no en_46 rfl (cempty) rfl ?_
  refine XL_det .no (D_build [_, _, _, _, _, _, _, _, _, _, _, _, _, _, _, _, _, _, _, _, _, _, _, _, _, _, _, _, _, _, _, _, _, _, _, _, _, _, _, _, _, _, _, _, _, _, _, _, _, _, _, _, _, _, _, _, _, _, _, _, _, _, _, _, _, _, _, _, _, _, _, _, _, _, _, _, _, _, _, _, _, _, _, _, _, _, _, _, _, _, _, _, _, _, _, _, _, _, _, _, _, _, _, _, _, _, _, _, _, _, _, _, _, _, _, _, _, _, _, _, _, _, _, _, _, _, _, _, _, _, _, _, _, _, _, _, _, _, _, _] rfl bld_110 (by rfl)) rfl ?_
  refine XL_box (cs := (preC cr0 ++ (qc 0#32 (fun _ => 0#32) 0#32 ++ postC cr0))) .no rfl rfl rfl (fun b1 => ?_)
  refine XL_det .no (D_pure rfl) rfl ?_
  refine XL_then ?_
  refine X_ret ?_
  refine ret_ok (.nil _) (res_tmp rfl rfl) ?_
  rw [← cr0_eq]
  exact ⟨[blk b1 (crC (cr0)) 110, many 16 (rowS cr0.jf)], ⟨b1, rfl, rfl⟩, _, (by repeat first | (with_reducible first | exact .nil _ | exact .here _ _) | exact .here _ _ | (with_reducible first | exact Take.self _ | apply Take.cons | apply Out.there | apply Take.skip | exact Take.pre _ _ | apply Out.app))⟩

theorem snow (c : Nat) (s : Cr)  : Ctr Tryd.prog B 17 [.pointer (some ⟨c, 0, none⟩)] [blk c (crC s) 110] (fun v S => v = .int .i64 s.now ∧ S = [blk c (crC s) 110]) := by
  refine Ctr_of_X (N := 7) Tryd.func17 rfl (by simp) rfl ?_
  intro w0 D0
  refine X_seq ?_
  refine X_region ?_
  refine XL_det .no (D_pure rfl) rfl ?_
  refine XL_then ?_
  refine X_seq ?_
  refine X_region ?_
  refine XL_det .no (D_pure rfl) rfl ?_
  refine XL_det .no (D_nilck rfl) rfl ?_
  refine XL_det .no (D_fld rfl fld_110_4 (o' := 139) rfl) rfl ?_
  refine XL_det .no (D_ldo rfl (by with_reducible repeat first | exact .here _ _ | apply Out.there | apply Out.app) tk_3 (cr_now _)) rfl ?_
  refine XL_det .no (D_pure rfl) rfl ?_
  refine XL_then ?_
  refine X_ret ?_
  refine ret_ok (.nil _) (res_tmp rfl rfl) ?_
  exact ⟨_, ⟨rfl, rfl⟩, _, (by with_reducible repeat first | exact .nil _ | exact .here _ _ | exact Take.self _ | apply Take.cons | apply Out.there | apply Take.skip | exact Take.pre _ _ | apply Out.app)⟩

theorem slive (c : Nat) (s : Cr)  : Ctr Tryd.prog B 19 [.pointer (some ⟨c, 0, none⟩)] [blk c (crC s) 110] (fun v S => v = .int .u32 s.live.toNat ∧ S = [blk c (crC s) 110]) := by
  refine Ctr_of_X (N := 7) Tryd.func19 rfl (by simp) rfl ?_
  intro w0 D0
  refine X_seq ?_
  refine X_region ?_
  refine XL_det .no (D_pure rfl) rfl ?_
  refine XL_then ?_
  refine X_seq ?_
  refine X_region ?_
  refine XL_det .no (D_pure rfl) rfl ?_
  refine XL_det .no (D_nilck rfl) rfl ?_
  refine XL_det .no (D_fld rfl fld_110_1 (o' := 96) rfl) rfl ?_
  refine XL_det .no (D_ldo rfl (by with_reducible repeat first | exact .here _ _ | apply Out.there | apply Out.app) tk_37 (cr_live _)) rfl ?_
  refine XL_det .no (D_pure rfl) rfl ?_
  refine XL_then ?_
  refine X_ret ?_
  refine ret_ok (.nil _) (res_tmp rfl rfl) ?_
  exact ⟨_, ⟨rfl, rfl⟩, _, (by with_reducible repeat first | exact .nil _ | exact .here _ _ | exact Take.self _ | apply Take.cons | apply Out.there | apply Take.skip | exact Take.pre _ _ | apply Out.app)⟩

theorem stable (c : Nat) (s : Cr)  : Ctr Tryd.prog B 89 [.pointer (some ⟨c, 0, none⟩)] [blk c (crC s) 110] (fun v S => v = tblV s.tab ∧ S = [blk c (crC s) 110]) := by
  refine Ctr_of_X (N := 7) Tryd.func89 rfl (by simp) rfl ?_
  intro w0 D0
  refine X_seq ?_
  refine X_region ?_
  refine XL_alloc .no zero_34 rfl (fun b1 => ?_)
  refine XL_then ?_
  refine X_seq ?_
  refine X_region ?_
  refine XL_det .no (D_pure rfl) rfl ?_
  refine XL_det .no (D_nilck rfl) rfl ?_
  refine XL_det .no (D_fld rfl fld_110_3 (o' := 131) rfl) rfl ?_
  refine XL_det .no (D_ldso (vs := rowI 8 s.tab) rfl (by with_reducible repeat first | exact .here _ _ | apply Out.there | apply Out.app) tk_34 (by rw [cr_len]; rfl) (cr_tab _)) rfl ?_
  refine XL_efd .no (F_stw rfl rfl rfl (by with_reducible repeat first | exact .here _ _ | apply Out.there | apply Out.app) tk_34 rfl rfl) ?_
  refine XL_then ?_
  refine X_ret ?_
  refine ret_ok (.nil _) (res_cell rfl rfl (by with_reducible repeat first | exact .here _ _ | apply Out.there | apply Out.app) tk_34 (by rfl)) ?_
  exact ⟨_, ⟨rfl, rfl⟩, _, (by with_reducible repeat first | exact .nil _ | exact .here _ _ | exact Take.self _ | apply Take.cons | apply Out.there | apply Take.skip | exact Take.pre _ _ | apply Out.app)⟩

theorem snext (c : Nat) (s : Cr) (hc : COk s) (hK : Rd K ⟨0, 0, none⟩ (tab32.map fun m => .int .u8 m)) : Ctr Tryd.prog B 61 [.pointer (some ⟨c, 0, none⟩)] [blk c (crC s) 110, K] (fun v S => v = .tuple #[.int .i64 (firstR s.r).1, .bool (firstR s.r).2] ∧ S = [blk c (crC s) 110, K]) := by
  refine Ctr_of_X (N := 10) Tryd.func61 rfl (by simp) rfl ?_
  intro w0 D0
  refine X_seq ?_
  refine X_region ?_
  refine XL_det .no (D_pure rfl) rfl ?_
  refine XL_det .no (D_pure rfl) rfl ?_
  refine XL_then ?_
  refine X_seq ?_
  refine X_region ?_
  refine XL_det .no (D_pure rfl) rfl ?_
  refine XL_det .no (D_nilck rfl) rfl ?_
  refine XL_det .no (D_fld rfl fld_110_2 (o' := 97) rfl) rfl ?_
  refine XL_callk .no en_53 rfl (rfirst c 110 (preC s) (postC s) (pre_len s) s.r hc.r hK) (by with_reducible repeat first | exact .nil _ | exact .here _ _ | exact Take.self _ | apply Take.cons | apply Out.there | apply Take.skip | exact Take.pre _ _ | apply Out.app) rfl ?_
  refine XL_det .no (D_pure (v := .int .i64 (firstR s.r).1) rfl) rfl ?_
  refine XL_det .no (D_pure (v := .bool (firstR s.r).2) rfl) rfl ?_
  refine XL_det .no (D_pure rfl) rfl ?_
  refine XL_det .no (D_pure rfl) rfl ?_
  refine XL_then ?_
  refine X_ret ?_
  refine ret_ok (.nil _) (res_tmp2 rfl rfl rfl) ?_
  exact ⟨_, ⟨rfl, rfl⟩, _, (by with_reducible repeat first | exact .nil _ | exact .here _ _ | exact Take.self _ | apply Take.cons | apply Out.there | apply Take.skip | exact Take.pre _ _ | apply Out.app)⟩

theorem swork (c : Nat) (s : Cr) (i : Nat) (hi : i < 16) (h0 : 0 ≤ (s.jf i).done) (h1 : (s.jf i).done ≤ 100000000) : Ctr Tryd.prog B 56 [.pointer (some ⟨c, 0 + i * 6, none⟩)] [blk c (crC s) 110] (fun v S => v = .bool (decide (min ((s.jf i).done + 1) (s.jf i).cost ≥ (s.jf i).cost)) ∧ S = [blk c (crC ({ s with jf := upd s.jf i (stepJ (s.jf i)) } : Cr)) 110]) := by
  refine Ctr_of_X (N := 20) Tryd.func56 rfl (by simp) rfl ?_
  intro w0 D0
  refine X_seq ?_
  refine X_region ?_
  refine XL_det .no (D_pure rfl) rfl ?_
  refine XL_then ?_
  refine X_seq ?_
  refine X_draw _ mixed (Take.self _) ?_
  refine XA_detp 0 rfl (by kernel_rfl) (by kernel_rfl) (by kernel_rfl) (fun _ _ _ _ h => h) .no (D_pureP rfl) rfl ?_
  refine XA_detp 1 rfl (by kernel_rfl) (by kernel_rfl) (by kernel_rfl) (fun _ _ _ _ h => h) .no (D_pureP rfl) rfl ?_
  refine XA_detp 2 rfl (by kernel_rfl) (by kernel_rfl) (by kernel_rfl) (fun _ _ _ _ h => h) .no (D_nilckP rfl) rfl ?_
  refine XA_detp 3 rfl (by kernel_rfl) (by kernel_rfl) (by kernel_rfl) (fun _ _ _ _ h => h) .no (D_fldP rfl fld_45_4 (o' := 0 + i * 6 + 4) rfl) rfl ?_
  refine XA_det 4 rfl (by kernel_rfl) (by kernel_rfl) (by kernel_rfl) (by kernel_rfl) (fun _ _ _ _ h => h) .no (D_ldo rfl (by with_reducible repeat first | exact .here _ _ | apply Out.there | apply Out.app) tk_3 (cr_fld _ hi rfl)) rfl ?_
  refine XA_det 5 rfl (by kernel_rfl) (by kernel_rfl) (by kernel_rfl) (by kernel_rfl) (fun _ _ _ _ h => h) .no (D_add rfl rfl (by omega) (by omega)) rfl ?_
  refine XA_detp 6 rfl (by kernel_rfl) (by kernel_rfl) (by kernel_rfl) (fun _ _ _ _ h => h) .no (D_pureP rfl) rfl ?_
  refine XA_detp 7 rfl (by kernel_rfl) (by kernel_rfl) (by kernel_rfl) (fun _ _ _ _ h => h) .no (D_nilckP rfl) rfl ?_
  refine XA_detp 8 rfl (by kernel_rfl) (by kernel_rfl) (by kernel_rfl) (fun _ _ _ _ h => h) .no (D_fldP rfl fld_45_3 (o' := 0 + i * 6 + 3) rfl) rfl ?_
  refine XA_det 9 rfl (by kernel_rfl) (by kernel_rfl) (by kernel_rfl) (by kernel_rfl) (fun _ _ _ _ h => h) .no (D_ldo rfl (by with_reducible repeat first | exact .here _ _ | apply Out.there | apply Out.app) tk_3 (cr_fld _ hi rfl)) rfl ?_
  refine XA_det 10 rfl (by kernel_rfl) (by kernel_rfl) (by kernel_rfl) (by kernel_rfl) (fun _ _ _ _ h => h) .no (D_min rfl rfl) rfl ?_
  refine XA_detp 11 rfl (by kernel_rfl) (by kernel_rfl) (by kernel_rfl) (fun _ _ _ _ h => h) .no (D_nilckP rfl) rfl ?_
  refine XA_detp 12 rfl (by kernel_rfl) (by kernel_rfl) (by kernel_rfl) (fun _ _ _ _ h => h) .no (D_fldP rfl fld_45_4 (o' := 0 + i * 6 + 4) rfl) rfl ?_
  refine XA_one 13 (by kernel_rfl) ?_
  refine XO_efd rfl .no (by with_reducible repeat first | exact .nil _ | apply App.cons) (F_st (k := 0 + i * 6 + 4) (cs' := crC { s with jf := upd s.jf i (stepJ (s.jf i)) }) rfl rfl rfl (by with_reducible repeat first | exact .here _ _ | apply Out.there | apply Out.app) tk_3 (cr_lt s (by omega)) (cr_setdone s hi _)) (by kernel_rfl) ?_
  refine XA_done (by kernel_rfl) ?_
  try simp only [List.cons_append, List.nil_append, List.append_nil]
  refine thenX_normal ?_
  refine X_seq ?_
  refine X_region ?_
  refine XL_det .no (D_pure rfl) rfl ?_
  refine XL_det .no (D_nilck rfl) rfl ?_
  refine XL_det .no (D_ldso (vs := encJ (stepJ (s.jf i))) rfl (by with_reducible repeat first | exact .here _ _ | apply Out.there | apply Out.app) tk_45 (by rw [cr_len]; exact Nat.ble_eq_true_of_le (by omega)) ((cr_job { s with jf := upd s.jf i (stepJ (s.jf i)) } hi).trans (by show encJ (upd s.jf i (stepJ (s.jf i)) i) = _; rw [upd_same]))) rfl ?_
  refine XL_callv .no en_50 rfl (jover (s.jf i).id (s.jf i).rel (s.jf i).dl (s.jf i).cost (min ((s.jf i).done + 1) (s.jf i).cost) (s.jf i).secs) rfl ?_
  refine XL_det .no (D_pure rfl) rfl ?_
  refine XL_then ?_
  refine X_ret ?_
  refine ret_ok (.nil _) (res_tmp rfl rfl) ?_
  exact ⟨_, ⟨rfl, rfl⟩, _, (by with_reducible repeat first | exact .nil _ | exact .here _ _ | exact Take.self _ | apply Take.cons | apply Out.there | apply Take.skip | exact Take.pre _ _ | apply Out.app)⟩

theorem sceil (c : Nat) (s : Cr) (t : Nat → Int) (hc : COk s) (ht : ∀ r : Nat, r < 8 → 0 ≤ t r ∧ t r ≤ 16) (hK : Rd K ⟨0, 0, none⟩ (tab32.map fun m => .int .u8 m)) (hd : Dup K) : Ctr Tryd.prog B 13 [.pointer (some ⟨c, 0, none⟩), tblV t] [blk c (crC s) 110, many 16 (rowS s.jf), K] (fun v S => v = .tuple #[] ∧ S = [blk c (crC (ceilC s t)) 110, many 16 (rowS s.jf), K]) := by
  refine Ctr_of_X (N := 23) Tryd.func13 rfl (by simp) rfl ?_
  intro w0 D0
  refine X_seq ?_
  refine X_region ?_
  refine XL_box .no rfl rfl rfl (fun b1 => ?_)
  refine XL_box (cs := rowI 8 t) .no rfl rfl rfl (fun b2 => ?_)
  refine XL_then ?_
  refine X_seq ?_
  refine X_region ?_
  refine XL_det .no (D_ldo rfl (by with_reducible repeat first | exact .here _ _ | apply Out.there | apply Out.app) tk_30 (by rfl)) rfl ?_
  refine XL_det .no (D_ldso (vs := rowI 8 t) rfl (by with_reducible repeat first | exact .here _ _ | apply Out.there | apply Out.app) tk_34 rfl (by rfl)) rfl ?_
  refine XL_det .no (D_nilck rfl) rfl ?_
  refine XL_det .no (D_fld rfl fld_110_3 (o' := 131) rfl) rfl ?_
  refine XL_efd .no (F_sts (k := 131) (n := 8) (cs' := crC { s with tab := t }) rfl rfl (by intro u hu; obtain ⟨z, _, rfl⟩ := List.mem_map.1 hu; rfl) (by with_reducible repeat first | exact .here _ _ | apply Out.there | apply Out.app) tk_34 rfl (by rw [cr_len]; rfl) (cr_ststab s t)) ?_
  refine XL_then ?_
  refine X_seq ?_
  refine X_region ?_
  refine XL_det .no (D_ldo rfl (by with_reducible repeat first | exact .here _ _ | apply Out.there | apply Out.app) tk_30 (by rfl)) rfl ?_
  refine XL_det .no (D_nilck rfl) rfl ?_
  refine XL_det .no (D_fld rfl fld_110_1 (o' := 96) rfl) rfl ?_
  refine XL_det .no (D_ldo rfl (by with_reducible repeat first | exact .here _ _ | apply Out.there | apply Out.app) tk_37 (cr_live _)) rfl ?_
  refine XL_call .no en_47 rfl (mAll s.live) (by with_reducible repeat first | exact .nil _ | exact .here _ _ | exact Take.self _ | apply Take.cons | apply Out.there | apply Take.skip | exact Take.pre _ _ | apply Out.app) rfl ?_
  rintro _ _ ⟨ba, rfl, rfl⟩
  simp only [List.cons_append, List.nil_append]
  refine XL_then ?_
  refine X_block ?_
  refine X_dup hd (by with_reducible repeat first | exact .here _ _ | apply Out.there | apply Out.app) ?_
  rw [show crC { s with tab := t } = crC (⟨s.jf, s.live, relay t s.jf s.r ((listI s.live).take 0), t, s.now⟩) from rfl]
  refine X_range (own := [blk ba [.int .u32 s.live.toNat] 37, K]) (S1 := [blk b1 [.pointer (some ⟨c, 0, none⟩)] 30, blk c (crC (⟨s.jf, s.live, relay t s.jf s.r ((listI s.live).take 0), t, s.now⟩ : Cr)) 110, many 16 (rowS s.jf), K]) rfl en_78 (allItr ba s.live hK) (fun i S => S = [blk b1 [.pointer (some ⟨c, 0, none⟩)] 30, blk c (crC (⟨s.jf, s.live, relay t s.jf s.r ((listI s.live).take i), t, s.now⟩ : Cr)) 110, many 16 (rowS s.jf), K]) (fun c i S => False) (show Take ([blk ba [.int .u32 s.live.toNat] 37, K, blk b1 [.pointer (some ⟨c, 0, none⟩)] 30, blk c (crC (⟨s.jf, s.live, relay t s.jf s.r ((listI s.live).take 0), t, s.now⟩ : Cr)) 110, many 16 (rowS s.jf), K]) _ _ from (by with_reducible repeat first | exact .nil _ | exact .here _ _ | exact Take.self _ | apply Take.cons | apply Out.there | apply Take.skip | exact Take.pre _ _ | apply Out.app)) (rfl) rfl (fun x hx => by obtain ⟨y, _, rfl⟩ := List.mem_map.1 hx; rfl) ?_ ?_ ?_
  · intro ly rec A2 i S2 hi hJ
    subst hJ
    rw [List.length_map] at hi
    obtain ⟨m, hget⟩ : ∃ m, (listI s.live)[i]? = some m := ⟨_, List.getElem?_eq_getElem hi⟩
    have hm := mem_listN.1 (List.mem_of_getElem? hget)
    have hml := hc.live m.toNat (by rw [show ((m.toNat : Nat) : Int) = m by omega]; exact hm.2.2)
    have hm16 : m.toNat < 16 := hml.1
    rw [map_get hget]
    refine X_region ?_
    refine XL_det .no (D_pure rfl) rfl ?_
    refine XL_nil ?_
    refine ⟨rfl, _, _, .cons (by with_reducible repeat first | exact .here _ _ | apply Out.there | apply Out.app) (Take.self _), fun rec2 => ?_⟩
    refine X_block ?_
    refine X_draw [blk b1 [.pointer (some ⟨c, 0, none⟩)] 30] mixed (by with_reducible repeat first | exact .nil _ | exact .here _ _ | exact Take.self _ | apply Take.cons | apply Out.there | apply Take.skip | exact Take.pre _ _ | apply Out.app) ?_
    refine XA_det 0 rfl (by kernel_rfl) (by kernel_rfl) (by kernel_rfl) (by kernel_rfl) (fun _ _ _ _ h => h) .no (D_ldo rfl (by with_reducible repeat first | exact .here _ _ | apply Out.there | apply Out.app) tk_30 (by rfl)) rfl ?_
    refine XA_det 1 rfl (by kernel_rfl) (by kernel_rfl) (by kernel_rfl) (by kernel_rfl) (fun _ _ _ _ h => h) .no (D_ldo rfl (by with_reducible repeat first | exact .here _ _ | apply Out.there | apply Out.app) tk_30 (by rfl)) rfl ?_
    refine XA_detp 2 rfl (by kernel_rfl) (by kernel_rfl) (by kernel_rfl) (fun _ _ _ _ h => h) .no (D_pureP rfl) rfl ?_
    refine XA_detp 3 rfl (by kernel_rfl) (by kernel_rfl) (by kernel_rfl) (fun _ _ _ _ h => h) .no (D_nilckP rfl) rfl ?_
    refine XA_detp 4 rfl (by kernel_rfl) (by kernel_rfl) (by kernel_rfl) (fun _ _ _ _ h => h) .no (D_fldP rfl fld_110_0 (o' := 0) rfl) rfl ?_
    refine XA_detp 5 rfl (by kernel_rfl) (by kernel_rfl) (by kernel_rfl) (fun _ _ _ _ h => h) .no (D_idxAP rfl rfl arr_105 (show m = ((m.toNat : Nat) : Int) by omega) (by omega) rfl) rfl ?_
    refine XA_one 6 (by kernel_rfl) ?_
    refine XO_det rfl .no (by with_reducible repeat first | exact .nil _ | apply App.cons) (D_ldso (vs := encJ (s.jf m.toNat)) rfl (by with_reducible repeat first | exact .here _ _ | apply Out.there | apply Out.app) tk_45 (by rw [cr_len]; exact Nat.ble_eq_true_of_le (by omega)) (cr_job (⟨s.jf, s.live, relay t s.jf s.r ((listI s.live).take i), t, s.now⟩) hm16)) rfl ?_
    refine XA_one 7 (by kernel_rfl) ?_
    refine XO_callc rfl .no en_48 rfl (by with_reducible repeat first | exact .nil _ | apply App.cons) (slay c (⟨s.jf, s.live, relay t s.jf s.r ((listI s.live).take i), t, s.now⟩) (Kj := many 16 (rowS s.jf)) (s.jf m.toNat) (Rd_many hm16 (Rd_own (hc.own _ hm16) rfl)) ht (relay_ok hc.r) (by rw [hml.2.1]; omega) hK) (by with_reducible repeat first | exact .nil _ | exact .here _ _ | exact Take.self _ | apply Take.cons | apply Out.there | apply Take.skip | exact Take.pre _ _ | apply Out.app) rfl ?_
    rintro _ _ ⟨rfl, rfl⟩
    simp only [List.cons_append, List.nil_append]
    refine ⟨[obj ly (.loop rec2), blk c (crC (⟨s.jf, s.live, putR (relay t s.jf s.r ((listI s.live).take i)) (s.jf m.toNat).id ((s.jf m.toNat).lev t), t, s.now⟩ : Cr)) 110, many 16 (rowS s.jf), K], _, _, (by with_reducible repeat first | exact .nil _ | apply App.cons), (by with_reducible repeat first | exact .nil _ | exact .here _ _ | exact Take.self _ | apply Take.cons | apply Out.there | apply Take.skip | exact Take.pre _ _ | apply Out.app), ?_⟩
    refine XA_done (by kernel_rfl) ?_
    try simp only [List.cons_append, List.nil_append, List.append_nil]
    refine inBlk_normal ?_
    exact ⟨[blk b1 [.pointer (some ⟨c, 0, none⟩)] 30, blk c (crC (⟨s.jf, s.live, putR (relay t s.jf s.r ((listI s.live).take i)) (s.jf m.toNat).id ((s.jf m.toNat).lev t), t, s.now⟩ : Cr)) 110, many 16 (rowS s.jf), K], _, (by with_reducible repeat first | exact .nil _ | exact .here _ _ | exact Take.self _ | apply Take.cons | apply Out.there | apply Take.skip | exact Take.pre _ _ | apply Out.app), by dsimp only; rw [relay_s hget]⟩
  · intro dd0 S2 hJ
    subst hJ
    rw [List.length_map, List.take_length]
    simp only [List.cons_append, List.nil_append]
    refine inBlk_normal ?_
    refine ret_okn (show Take [dfr dd0] _ _ from (by with_reducible repeat first | exact .nil _ | exact .here _ _ | exact Take.self _ | apply Take.cons | apply Out.there | apply Take.skip | exact Take.pre _ _ | apply Out.app)) (res_none rfl) ?_
    exact ⟨_, ⟨rfl, rfl⟩, _, (by repeat first | (with_reducible first | exact .nil _ | exact .here _ _) | exact .here _ _ | (with_reducible first | exact Take.self _ | apply Take.cons | apply Out.there | apply Take.skip | exact Take.pre _ _ | apply Out.app))⟩
  · intro dd0 c i S2 hi h
    exact h.elim

end Go.Proofs.YtkkdchgnknpceaaDoor
end
