/- ChartDraws: a part of the functions that it reaches, walked one by one. Walks written by a program of mine. -/
import Derived.Test.YtjcpggoodbkedaaDoorSm
import Derived.KernelRfl
import Derived.Test.YtjcpggoodbkedaaDoorProg
import Derived.Test.YtjcpggoodbkedaaDoorRows
import Derived.Test.YtjcpggoodbkedaaDoorTie
import Derived.Test.YtjcpggoodbkedaaDoorCards
import Derived.SevenTiedAt
import Derived.LaidMore
section
namespace Go.Proofs.YtjcpggoodbkedaaDoor
open Go Go.Sl
set_option linter.unusedVariables false
set_option linter.unusedSimpArgs false
set_option maxRecDepth 4000
variable {B : Nat} {K : Asrt B}
theorem arr_56 : arrOf Tryd.prog 56 = some (32, 1) := by kernel_rfl
theorem cvt_3_42 : cvtK Tryd.prog 3 42 = some .u64 := by kernel_rfl
theorem cvt_5_3 : cvtK Tryd.prog 5 3 = some .i64 := by kernel_rfl
theorem en_22 : Go.Proofs.Enters Tryd.prog 22 := Go.Proofs.enters_of Tryd.func22 (by kernel_rfl) rfl
theorem tk_23 : tyK Tryd.prog 23 = some (false, 1) := by kernel_rfl
theorem tk_5 : tyK Tryd.prog 5 = some (false, 1) := by kernel_rfl

def hasB (s : BitVec 32) (i : Int) : Bool := if 0 ≤ i ∧ i < 32 then s.getLsbD i.toNat else false
theorem hasB_out (s : BitVec 32) (i : Int) (h : ¬ (0 ≤ i ∧ i < 32)) : hasB s i = false := by simp [hasB, h]
theorem hasB_nat (s : BitVec 32) (i : Nat) : hasB s i = s.getLsbD i := by
  by_cases h : i < 32
  · simp only [hasB]; rw [if_pos (by omega)]; rfl
  · rw [hasB_out _ _ (by omega), BitVec.getLsbD_of_ge _ _ (by omega)]
theorem hasB_in (s : BitVec 32) (i : Int) (h1 : 0 ≤ i) (h2 : i < 32) : hasB s i = ((((s >>> i.toNat) % 2#32).toNat : Int) == 1) := by
  have e : (((s >>> i.toNat) % 2#32).toNat : Int) = ((s.toNat / 2 ^ i.toNat % 2 : Nat) : Int) := by
    simp [BitVec.toNat_umod, BitVec.toNat_ushiftRight, Nat.shiftRight_eq_div_pow]
  rw [e, hasB, if_pos ⟨h1, h2⟩, BitVec.getLsbD, Nat.testBit_eq_decide_div_mod_eq, Bool.eq_iff_iff]
  simp only [decide_eq_true_eq, beq_iff_eq]
  generalize s.toNat / 2 ^ i.toNat = q
  omega
theorem hasB_and (s t : BitVec 32) (i : Int) : hasB (s &&& t) i = (hasB s i && hasB t i) := by
  unfold hasB; split <;> simp
theorem hasB_or (s t : BitVec 32) (i : Int) : hasB (s ||| t) i = (hasB s i || hasB t i) := by
  unfold hasB; split <;> simp
theorem hasB_andnot (s t : BitVec 32) (i : Int) : hasB (s &&& ~~~t) i = (hasB s i && !hasB t i) := by
  unfold hasB; split
  · rename_i h; simp [show i.toNat < 32 by omega]
  · simp
theorem hasB_ext {s t : BitVec 32} (h : ∀ i : Nat, i < 32 → hasB s i = hasB t i) : s = t := by
  apply BitVec.eq_of_getLsbD_eq
  intro i hi
  rw [← hasB_nat, ← hasB_nat]; exact h i hi
def bitv (n : Int) : BitVec 32 := if n < 0 ∨ n > 31 then 0#32 else 1#32 <<< n.toNat
theorem bitv_in {n : Int} (h0 : 0 ≤ n) (h1 : n ≤ 31) : bitv n = 1#32 <<< n.toNat := by unfold bitv; rw [if_neg (by omega)]
theorem bitv_out {n : Int} (h : n < 0 ∨ n > 31) : bitv n = 0#32 := by unfold bitv; rw [if_pos h]
theorem hasB_bitv (n i : Int) : hasB (bitv n) i = decide (n = i ∧ 0 ≤ i ∧ i < 32) := by
  by_cases h : n < 0 ∨ n > 31
  · rw [bitv_out h]; simp [hasB]; omega
  · rw [bitv_in (by omega) (by omega)]
    by_cases hi : 0 ≤ i ∧ i < 32
    · obtain ⟨k, rfl⟩ := Int.eq_ofNat_of_zero_le hi.1
      obtain ⟨m, rfl⟩ := Int.eq_ofNat_of_zero_le (show 0 ≤ n by omega)
      rw [hasB_nat, Int.toNat_natCast]
      by_cases e : m = k
      · subst e; simp; omega
      · rw [BitVec.getLsbD_shiftLeft, BitVec.getLsbD_one, Bool.eq_iff_iff]
        simp only [Bool.and_eq_true, decide_eq_true_eq, Bool.not_eq_true', decide_eq_false_iff_not]
        omega
    · rw [hasB_out _ _ hi]; simp; omega
theorem bitv_ne (s : BitVec 32) (n : Int) : (((s &&& bitv n).toNat : Int) != 0) = hasB s n := by
  rw [Bool.eq_iff_iff]
  simp only [bne_iff_ne, ne_eq]
  constructor
  · intro h
    cases hb : hasB s n with
    | true => rfl
    | false =>
      exfalso; apply h
      have : s &&& bitv n = 0#32 := hasB_ext fun i hi => by
        rw [hasB_and, hasB_bitv]
        by_cases e : n = (i : Int)
        · subst e; rw [hb]; simp [hasB_nat]
        · simp [e, hasB_nat]
      rw [this]; rfl
  · intro hb h
    have h0 : s &&& bitv n = 0#32 := BitVec.eq_of_toNat_eq (by rw [show (0#32).toNat = 0 from rfl]; omega)
    have h1 : hasB (s &&& bitv n) n = true := by
      have hin : 0 ≤ n ∧ n < 32 := by
        by_cases hi : 0 ≤ n ∧ n < 32
        · exact hi
        · rw [hasB_out _ _ hi] at hb; cases hb
      rw [hasB_and, hb, hasB_bitv]; simp [hin]
    rw [h0] at h1; simp [hasB] at h1
theorem bt {m n : Int} (h : m = n) : some (Value.bool (m == n)) = some (.bool true) := by simp [h]


theorem hasB_add {s t : BitVec 32} (h : ∀ i : Nat, i < 32 → ¬ (hasB s i = true ∧ hasB t i = true)) : s + t = s ||| t := by
  apply BitVec.add_eq_or_of_and_eq_zero
  exact hasB_ext fun i hi => by
    rw [hasB_and]
    have := h i hi
    cases h1 : hasB s i <;> cases h2 : hasB t i <;> simp_all [hasB]
def belowV (s : BitVec 32) (n : Int) : BitVec 32 := if n ≤ 0 then 0#32 else if n > 31 then s else s &&& (1#32 <<< n.toNat - 1#32)
theorem hasB_below (s : BitVec 32) (n : Int) (i : Nat) (hi : i < 32) : hasB (belowV s n) i = (hasB s i && decide ((i : Int) < n)) := by
  unfold belowV
  split
  · simp [hasB]; intros; omega
  · split
    · simp; intros; omega
    · obtain ⟨k, rfl⟩ := Int.eq_ofNat_of_zero_le (show 0 ≤ n by omega)
      rw [hasB_and, Int.toNat_natCast]
      have e : hasB (1#32 <<< k - 1#32) i = decide ((i : Int) < k) := by
        rw [hasB_nat, BitVec.getLsbD, BitVec.toNat_sub, BitVec.toNat_shiftLeft]
        have hk : 2 ^ k < 2 ^ 32 := Nat.pow_lt_pow_right (by omega) (by omega)
        have h1 : (1#32).toNat = 1 := rfl
        rw [h1, Nat.shiftLeft_eq, Nat.one_mul, Nat.mod_eq_of_lt hk]
        rw [show (2 ^ 32 - 1 + 2 ^ k) % 2 ^ 32 = 2 ^ k - 1 from by have := Nat.two_pow_pos k; omega]
        rw [Nat.testBit_two_pow_sub_one]; simp
      rw [e]
def aboveV (s : BitVec 32) (n : Int) : BitVec 32 := if n < 0 then s else s &&& ~~~(belowV s n ||| bitv n)
theorem hasB_above (s : BitVec 32) (n : Int) (i : Nat) (hi : i < 32) : hasB (aboveV s n) i = (hasB s i && decide (n < (i : Int))) := by
  unfold aboveV
  split
  · simp; intros; omega
  · rw [hasB_andnot, hasB_or, hasB_below _ _ _ hi, hasB_bitv]
    cases hasB s i <;> simp
    rw [Bool.eq_iff_iff]; simp; omega
/-- A set's numbers. -/
def listN (s : BitVec 32) (n : Nat) : List Int := ((List.range n).filter fun (i : Nat) => hasB s (i : Int)).map fun (i : Nat) => (i : Int)
def listI (s : BitVec 32) : List Int := listN s 32
theorem listN_s (s : BitVec 32) (n : Nat) : listN s (n + 1) = listN s n ++ (if hasB s n then [(n : Int)] else []) := by
  unfold listN; rw [List.range_succ, List.filter_append, List.map_append]; cases h : hasB s n <;> simp [h]
theorem mem_listN {s : BitVec 32} {n : Nat} {x : Int} : x ∈ listN s n ↔ 0 ≤ x ∧ x < n ∧ hasB s x = true := by
  unfold listN; simp only [List.mem_map, List.mem_filter, List.mem_range]
  constructor
  · rintro ⟨i, ⟨h1, h2⟩, rfl⟩; exact ⟨by omega, by omega, h2⟩
  · rintro ⟨h0, h1, h2⟩; obtain ⟨k, rfl⟩ := Int.eq_ofNat_of_zero_le h0; exact ⟨k, ⟨by omega, h2⟩, rfl⟩
/-- The set of a list's numbers below n. -/
def ofN (l : List Int) : Nat → BitVec 32
  | 0 => 0#32
  | n + 1 => if (n : Int) ∈ l then ofN l n ||| (1#32 <<< n) else ofN l n
def ofI (l : List Int) : BitVec 32 := ofN l 32
theorem hasB_ofN (l : List Int) : ∀ (n : Nat), n ≤ 32 → ∀ (i : Nat), i < 32 → hasB (ofN l n) i = decide (i < n ∧ (i : Int) ∈ l)
  | 0, _, i, hi => by simp [ofN, hasB]
  | n + 1, hn, i, hi => by
    have ih := hasB_ofN l n (by omega) i hi
    have hb : hasB (1#32 <<< n) i = decide (n = i) := by
      have := hasB_bitv n i
      rw [bitv_in (by omega) (by omega), Int.toNat_natCast] at this
      rw [this]; rw [Bool.eq_iff_iff]; simp; omega
    rw [ofN]
    split
    · rename_i hm
      rw [hasB_or, ih, hb, Bool.eq_iff_iff]; simp
      constructor
      · rintro (⟨h1, h2⟩ | h)
        · exact ⟨by omega, h2⟩
        · subst h; exact ⟨by omega, hm⟩
      · rintro ⟨h1, h2⟩
        by_cases e : n = i
        · exact .inr e
        · exact .inl ⟨by omega, h2⟩
    · rename_i hm
      rw [ih, Bool.eq_iff_iff]; simp only [decide_eq_true_eq]
      constructor
      · rintro ⟨h1, h2⟩; exact ⟨by omega, h2⟩
      · rintro ⟨h1, h2⟩
        refine ⟨?_, h2⟩
        rcases Nat.lt_succ_iff_lt_or_eq.1 h1 with h | h
        · exact h
        · subst h; exact absurd h2 hm
theorem hasB_ofI (l : List Int) (i : Nat) (hi : i < 32) : hasB (ofI l) i = decide ((i : Int) ∈ l) := by
  rw [ofI, hasB_ofN l 32 (by omega) i hi, Bool.eq_iff_iff]; simp; omega
theorem ofN_add {l : List Int} {n : Nat} (hn : n < 32) (hm : (n : Int) ∈ l) : ofN l n + 1#32 <<< n = ofN l (n + 1) := by
  rw [ofN, if_pos hm]
  apply hasB_add
  intro i hi ⟨h1, h2⟩
  rw [hasB_ofN l n (by omega) i hi] at h1
  have := hasB_bitv n i
  rw [bitv_in (by omega) (by omega), Int.toNat_natCast] at this
  rw [this] at h2
  simp at h1 h2; omega


theorem listN_len (s : BitVec 32) (n : Nat) : (listN s n).length ≤ n := by
  unfold listN; rw [List.length_map]; exact Nat.le_trans (List.length_filter_le _ _) (by simp)
theorem notin_s {l : List Int} {i : Nat} {x n : Int} (h : l[i]? = some x) (hn : n ∉ l.take i) (hx : x ≠ n) : n ∉ l.take (i + 1) := by
  rw [List.take_add_one, h]; simp; exact ⟨hn, fun e => hx e.symm⟩

theorem mBelow (s : BitVec 32) (n : Int) : Ctr Tryd.prog B 15 [.int .u32 s.toNat, .int .i64 n] [] (fun v S => v = .int .u32 (belowV s n).toNat ∧ S = []) := by
  refine Ctr_of_X (N := 15) Tryd.func15 rfl (by simp) rfl ?_
  intro w0 D0
  refine X_seq ?_
  refine X_region ?_
  refine XL_det .no (D_pure rfl) rfl ?_
  refine XL_then ?_
  refine X_seq ?_
  refine X_seq ?_
  refine X_region ?_
  refine XL_det .no (D_pure rfl) rfl ?_
  refine XL_det .no (D_pure rfl) rfl ?_
  refine XL_then ?_
  refine X_cond rfl (fun h1 => ?_) (fun h1 => ?_)
  · try simp only [decide_eq_true_eq, decide_eq_false_iff_not, Bool.not_eq_true', Bool.not_eq_false', beq_iff_eq, bne_iff_ne, beq_eq_false_iff_ne, bne_eq_false_iff_eq, Int.not_lt, Int.not_le, gt_iff_lt, ge_iff_le, ne_eq] at h1
    refine X_seq ?_
    refine X_region ?_
    refine XL_det .no (D_pure rfl) rfl ?_
    refine XL_then ?_
    refine X_ret ?_
    refine thenX_ret ?_
    refine ret_ok (.nil _) (res_tmp rfl rfl) ?_
    exact ⟨_, ⟨by rw [belowV, if_pos (by omega)]; rfl, rfl⟩, _, (by repeat first | with_reducible exact .nil _ | with_reducible exact .here _ _ | with_reducible exact Take.self _ | with_reducible apply Take.cons | with_reducible apply Out.there | with_reducible apply Take.skip | with_reducible exact Take.pre _ _ | with_reducible apply Out.app)⟩
  · try simp only [decide_eq_true_eq, decide_eq_false_iff_not, Bool.not_eq_true', Bool.not_eq_false', beq_iff_eq, bne_iff_ne, beq_eq_false_iff_ne, bne_eq_false_iff_eq, Int.not_lt, Int.not_le, gt_iff_lt, ge_iff_le, ne_eq] at h1
    refine X_skip ?_
    refine thenX_normal ?_
    refine X_seq ?_
    refine X_seq ?_
    refine X_region ?_
    refine XL_det .no (D_pure rfl) rfl ?_
    refine XL_det .no (D_pure rfl) rfl ?_
    refine XL_then ?_
    refine X_cond rfl (fun h2 => ?_) (fun h2 => ?_)
    · try simp only [decide_eq_true_eq, decide_eq_false_iff_not, Bool.not_eq_true', Bool.not_eq_false', beq_iff_eq, bne_iff_ne, beq_eq_false_iff_ne, bne_eq_false_iff_eq, Int.not_lt, Int.not_le, gt_iff_lt, ge_iff_le, ne_eq] at h2
      refine X_seq ?_
      refine X_region ?_
      refine XL_det .no (D_pure rfl) rfl ?_
      refine XL_det .no (D_pure rfl) rfl ?_
      refine XL_then ?_
      refine X_ret ?_
      refine thenX_ret ?_
      refine ret_ok (.nil _) (res_tmp rfl rfl) ?_
      exact ⟨_, ⟨by rw [belowV, if_neg (by omega), if_pos (by omega)], rfl⟩, _, (by repeat first | with_reducible exact .nil _ | with_reducible exact .here _ _ | with_reducible exact Take.self _ | with_reducible apply Take.cons | with_reducible apply Out.there | with_reducible apply Take.skip | with_reducible exact Take.pre _ _ | with_reducible apply Out.app)⟩
    · try simp only [decide_eq_true_eq, decide_eq_false_iff_not, Bool.not_eq_true', Bool.not_eq_false', beq_iff_eq, bne_iff_ne, beq_eq_false_iff_ne, bne_eq_false_iff_eq, Int.not_lt, Int.not_le, gt_iff_lt, ge_iff_le, ne_eq] at h2
      refine X_skip ?_
      refine thenX_normal ?_
      refine X_seq ?_
      refine X_region ?_
      refine XL_det .no (D_pure rfl) rfl ?_
      refine XL_det .no (D_pure rfl) rfl ?_
      refine XL_det .no (D_bvshl rfl rfl rfl (by omega) (by omega)) rfl ?_
      refine XL_det .no (D_bv rfl rfl (bvo _) rfl rfl) rfl ?_
      refine XL_det .no (D_bv rfl rfl (bvo _) (bvo _) rfl) rfl ?_
      refine XL_det .no (D_pure rfl) rfl ?_
      refine XL_then ?_
      refine X_ret ?_
      refine ret_ok (.nil _) (res_tmp rfl rfl) ?_
      exact ⟨_, ⟨by rw [belowV, if_neg (by omega), if_neg (by omega)]; rfl, rfl⟩, _, (by repeat first | with_reducible exact .nil _ | with_reducible exact .here _ _ | with_reducible exact Take.self _ | with_reducible apply Take.cons | with_reducible apply Out.there | with_reducible apply Take.skip | with_reducible exact Take.pre _ _ | with_reducible apply Out.app)⟩


def tab32 : List Int := [0, 1, 28, 2, 29, 14, 24, 3, 30, 22, 20, 15, 25, 17, 4, 8, 31, 27, 13, 23, 21, 19, 16, 7, 26, 12, 18, 6, 11, 5, 10, 9]
/-- The least number of a set. -/
def leastN (s : BitVec 32) : Nat := ((List.range 32).find? fun (i : Nat) => hasB s (i : Int)).getD 32
theorem least_spec {s : BitVec 32} (h : s ≠ 0#32) : leastN s < 32 ∧ hasB s (leastN s) = true ∧ ∀ j : Nat, j < leastN s → hasB s j = false := by
  unfold leastN
  cases hf : (List.range 32).find? fun (i : Nat) => hasB s (i : Int) with
  | none =>
    exfalso; apply h
    refine hasB_ext fun i hi => ?_
    have := List.find?_eq_none.1 hf i (List.mem_range.2 hi)
    simp at this; rw [this]; simp [hasB]
  | some k =>
    have h1 := List.find?_some hf
    obtain ⟨h2, xs, ys, h3, h4⟩ := List.find?_eq_some_iff_append.1 hf
    have h5 := List.mem_range.1 (List.mem_of_find?_eq_some hf)
    refine ⟨by simpa using h5, by simpa using h1, fun j hj => ?_⟩
    simp at hj
    have hlen : xs.length = k := by
      have hg : (List.range 32)[xs.length]? = some k := by rw [h3]; simp
      have hlt : xs.length < 32 := by
        have := congrArg List.length h3; simp at this; omega
      rw [List.getElem?_range hlt] at hg
      exact Option.some.inj hg
    have hj' : j ∈ xs := by
      have hg : (List.range 32)[j]? = some j := List.getElem?_range (by omega)
      rw [h3, List.getElem?_append_left (by omega)] at hg
      exact List.mem_of_getElem? hg
    simpa using h4 j hj'
theorem neg_and {s : BitVec 32} (h : s ≠ 0#32) : s &&& -s = 1#32 <<< leastN s := by
  obtain ⟨h1, h2, h3⟩ := least_spec h
  refine hasB_ext fun i hi => ?_
  have hb : hasB (1#32 <<< leastN s) i = decide (leastN s = i) := by
    have := hasB_bitv (leastN s) i
    rw [bitv_in (by omega) (by omega), Int.toNat_natCast] at this
    rw [this, Bool.eq_iff_iff]; simp; omega
  rw [hb, hasB_and, hasB_nat, hasB_nat, BitVec.getLsbD_neg]
  simp only [hi, decide_true, Bool.true_and]
  simp only [hasB_nat] at h2 h3
  by_cases e : leastN s = i
  · subst e
    have : ¬ ∃ j, j < leastN s ∧ s.getLsbD j = true := by rintro ⟨j, hj, hx⟩; rw [h3 j hj] at hx; cases hx
    simp [h2, this]
  · rcases Nat.lt_or_gt_of_ne e with hlt | hgt
    · have : ∃ j, j < i ∧ s.getLsbD j = true := ⟨_, hlt, h2⟩
      simp [this, e]
    · simp [h3 i hgt, e]
theorem tab_ok : ∀ k : Nat, k < 32 → tab32[(((1#32 <<< k) * 125613361#32) >>> 27).toNat]? = some (k : Int) := by decide
theorem tz_tab {s : BitVec 32} (h : s ≠ 0#32) : tab32[(((s &&& -s) * 125613361#32) >>> 27).toNat]? = some (leastN s : Int) := by
  rw [neg_and h]; exact tab_ok _ (least_spec h).1
theorem list_cons {s : BitVec 32} (h : s ≠ 0#32) : ∃ l, listI s = (leastN s : Int) :: l := by
  obtain ⟨h1, h2, h3⟩ := least_spec h
  unfold listI listN
  have e : List.range 32 = List.range (leastN s) ++ (leastN s) :: (List.range' (leastN s + 1) (31 - leastN s)) := by
    rw [List.range_eq_range', show 32 = leastN s + (1 + (31 - leastN s)) by omega, ← List.range'_append_1, List.range_eq_range', ← List.range'_append_1]
    simp
  rw [e, List.filter_append, List.filter_cons, if_pos h2, List.filter_eq_nil_iff.2 (fun j hj => by rw [h3 j (List.mem_range.1 hj)]; simp)]
  exact ⟨_, rfl⟩

theorem tz (s : BitVec 32) (hK : Rd K ⟨0, 0, none⟩ (tab32.map fun m => .int .u8 m)) : Ctr Tryd.prog B 22 [.int .u32 s.toNat] [K] (fun v S => v = .int .i64 (if s = 0#32 then 32 else (leastN s : Int)) ∧ S = [K]) := by
  refine Ctr_of_X (N := 14) Tryd.func22 rfl (by simp) rfl ?_
  intro w0 D0
  refine X_seq ?_
  refine X_region ?_
  refine XL_det .no (D_pure rfl) rfl ?_
  refine XL_then ?_
  refine X_seq ?_
  refine X_seq ?_
  refine X_region ?_
  refine XL_det .no (D_pure rfl) rfl ?_
  refine XL_det .no (D_pure rfl) rfl ?_
  refine XL_then ?_
  refine X_cond rfl (fun h1 => ?_) (fun h1 => ?_)
  · try simp only [decide_eq_true_eq, decide_eq_false_iff_not, Bool.not_eq_true', Bool.not_eq_false', beq_iff_eq, bne_iff_ne, beq_eq_false_iff_ne, bne_eq_false_iff_eq, Int.not_lt, Int.not_le, gt_iff_lt, ge_iff_le, ne_eq] at h1
    refine X_seq ?_
    refine X_region ?_
    refine XL_det .no (D_pure rfl) rfl ?_
    refine XL_then ?_
    refine X_ret ?_
    refine thenX_ret ?_
    refine ret_ok (.nil _) (res_tmp rfl rfl) ?_
    exact ⟨_, ⟨by rw [if_pos (BitVec.eq_of_toNat_eq (by rw [show (0#32).toNat = 0 from rfl]; omega))], rfl⟩, _, (by repeat first | with_reducible exact .nil _ | with_reducible exact .here _ _ | with_reducible exact Take.self _ | with_reducible apply Take.cons | with_reducible apply Out.there | with_reducible apply Take.skip | with_reducible exact Take.pre _ _ | with_reducible apply Out.app)⟩
  · try simp only [decide_eq_true_eq, decide_eq_false_iff_not, Bool.not_eq_true', Bool.not_eq_false', beq_iff_eq, bne_iff_ne, beq_eq_false_iff_ne, bne_eq_false_iff_eq, Int.not_lt, Int.not_le, gt_iff_lt, ge_iff_le, ne_eq] at h1
    have hs : s ≠ 0#32 := by rintro rfl; exact h1 rfl
    have hlt := (least_spec hs).1
    have htab := tz_tab hs
    have h32 := (List.getElem?_eq_some_iff.1 htab).1
    refine X_skip ?_
    refine thenX_normal ?_
    refine X_seq ?_
    refine X_region ?_
    refine XL_det .no (D_pure rfl) rfl ?_
    refine XL_det .no (D_pure rfl) rfl ?_
    refine XL_det .no (D_bvneg rfl (bvo _)) rfl ?_
    refine XL_det .no (D_bv rfl rfl (bvo _) (bvo _) rfl) rfl ?_
    refine XL_det .no (D_bv rfl rfl (bvo _) rfl rfl) rfl ?_
    refine XL_det .no (D_bvshr rfl rfl rfl (by omega) (by omega)) rfl ?_
    refine XL_det .no (D_idxA rfl rfl arr_56 (rfl : (_ : Int) = (((((s &&& -s) * 125613361#32) >>> 27).toNat : Nat) : Int)) h32 rfl) rfl ?_
    refine XL_det .no (D_ldb rfl (by repeat first | with_reducible exact .here _ _ | with_reducible apply Out.there | with_reducible apply Out.app) hK tk_5 (v := .int .u8 (leastN s : Int)) (by rw [Nat.zero_add, Nat.mul_one, List.getElem?_map, htab]; rfl)) rfl ?_
    refine XL_det .no (D_cvt rfl cvt_5_3 (i64_in' (by omega) (by omega))) rfl ?_
    refine XL_det .no (D_pure rfl) rfl ?_
    refine XL_then ?_
    refine X_ret ?_
    refine ret_ok (.nil _) (res_tmp rfl rfl) ?_
    exact ⟨_, ⟨by rw [if_neg hs], rfl⟩, _, (by repeat first | with_reducible exact .nil _ | with_reducible exact .here _ _ | with_reducible exact Take.self _ | with_reducible apply Take.cons | with_reducible apply Out.there | with_reducible apply Take.skip | with_reducible exact Take.pre _ _ | with_reducible apply Out.app)⟩


theorem hasB_pred {t : BitVec 32} (h : t ≠ 0#32) {i : Nat} (hi : i < 32) : hasB (t &&& (t - 1#32)) i = (hasB t i && decide (leastN t < i)) := by
  obtain ⟨h1, h2, h3⟩ := least_spec h
  have e : t - 1#32 = ~~~(-t) := by
    apply BitVec.eq_of_toNat_eq
    simp [BitVec.toNat_sub, BitVec.toNat_neg, BitVec.toNat_not]; omega
  rw [hasB_and, e]
  have hn : hasB (~~~(-t)) i = !hasB (-t) i := by rw [hasB_nat, hasB_nat]; simp [hi]
  rw [hn, hasB_nat (-t), BitVec.getLsbD_neg]
  simp only [hi, decide_true, Bool.true_and]
  simp only [hasB_nat] at h2 h3 ⊢
  cases hb : t.getLsbD i with
  | false => simp
  | true =>
    by_cases hlt : leastN t < i
    · have : ∃ j, j < i ∧ t.getLsbD j = true := ⟨_, hlt, h2⟩
      simp [this, hlt]
    · have : ¬ ∃ j, j < i ∧ t.getLsbD j = true := by rintro ⟨j, hj, hx⟩; rw [h3 j (by omega)] at hx; cases hx
      simp [this, hlt]
theorem list_pred {t : BitVec 32} (h : t ≠ 0#32) : listI t = (leastN t : Int) :: listI (t &&& (t - 1#32)) := by
  obtain ⟨h1, h2, h3⟩ := least_spec h
  have e : List.range 32 = List.range (leastN t) ++ (leastN t) :: (List.range' (leastN t + 1) (31 - leastN t)) := by
    rw [List.range_eq_range', show 32 = leastN t + (1 + (31 - leastN t)) by omega, ← List.range'_append_1, List.range_eq_range', ← List.range'_append_1]
    simp
  unfold listI listN
  rw [e]
  simp only [List.filter_append]
  have z1 : (List.range (leastN t)).filter (fun (i : Nat) => hasB t (i : Int)) = [] := List.filter_eq_nil_iff.2 (fun j hj => by rw [h3 j (List.mem_range.1 hj)]; simp)
  have z2 : (List.range (leastN t)).filter (fun (i : Nat) => hasB (t &&& (t - 1#32)) (i : Int)) = [] := List.filter_eq_nil_iff.2 (fun j hj => by
    have := List.mem_range.1 hj
    rw [hasB_pred h (by omega), h3 j this]; simp)
  have z3 : hasB (t &&& (t - 1#32)) (leastN t) = false := by rw [hasB_pred h h1]; simp
  rw [z1, z2, List.filter_cons, if_pos h2, List.filter_cons, if_neg (by rw [z3]; simp)]
  simp only [List.nil_append, List.map_cons, List.cons.injEq, true_and]
  congr 1
  apply List.filter_congr
  intro j hj
  obtain ⟨k, hk, rfl⟩ := List.mem_range'.1 hj
  rw [hasB_pred h (by omega)]
  simp; intros; omega
theorem list_zero : listI 0#32 = [] := by
  unfold listI listN
  rw [List.filter_eq_nil_iff.2 (fun j hj => by simp [hasB])]; rfl
theorem listI_le (s : BitVec 32) : (listI s).length ≤ 32 := listN_len s 32
theorem drop_get {l : List Int} {i : Nat} {x : Int} {r : List Int} (h : l.drop i = x :: r) : i < l.length ∧ l[i]? = some x ∧ l.drop (i + 1) = r := by
  have h1 : i < l.length := by
    rcases Nat.lt_or_ge i l.length with h' | h'
    · exact h'
    · rw [List.drop_of_length_le h'] at h; cases h
  rw [List.drop_eq_getElem_cons h1] at h
  injection h with h2 h3
  exact ⟨h1, by rw [List.getElem?_eq_getElem h1, h2], h3⟩
theorem map_get {α : Type} {f : α → List Value} {l : List α} {i : Nat} {x : α} (h : l[i]? = some x) : (l.map f).getD i [] = f x := by simp [List.getD, h]
theorem eq_zero_of {t : BitVec 32} (h : (t.toNat : Int) = 0) : t = 0#32 := BitVec.eq_of_toNat_eq (by rw [show (0#32).toNat = 0 from rfl]; omega)
theorem ne_zero_of {t : BitVec 32} (h : ¬ (t.toNat : Int) = 0) : t ≠ 0#32 := by rintro rfl; exact h rfl
theorem tz1 {t : BitVec 32} (hK : Rd K ⟨0, 0, none⟩ (tab32.map fun m => .int .u8 m)) (h : t ≠ 0#32) : Ctr Tryd.prog B 22 [.int .u32 t.toNat] [K] (fun v S => v = .int .i64 (leastN t : Int) ∧ S = [K]) :=
  (tz t hK).mono fun v S ⟨h1, h2⟩ => ⟨by rw [h1, if_neg h], h2⟩

theorem mAll (s : BitVec 32) : Ctr Tryd.prog B 16 [.int .u32 s.toNat] [] (fun v S => ∃ b, v = .func (.func 21) #[] #[.pointer (some ⟨b, 0, none⟩)] ∧ S = [blk b [.int .u32 s.toNat] 23]) := by
  refine Ctr_of_X (N := 4) Tryd.func16 rfl (by simp) rfl ?_
  intro w0 D0
  refine X_seq ?_
  refine X_region ?_
  refine XL_box .no rfl rfl rfl (fun b1 => ?_)
  refine XL_det .no (D_pure rfl) rfl ?_
  refine XL_then ?_
  refine X_seq ?_
  refine X_region ?_
  refine XL_det .no (D_pure rfl) rfl ?_
  refine XL_det .no (D_pure rfl) rfl ?_
  refine XL_then ?_
  refine X_ret ?_
  refine ret_ok (.nil _) (res_tmp rfl rfl) ?_
  exact ⟨[blk b1 [.int .u32 s.toNat] 23], ⟨b1, rfl, rfl⟩, _, (by repeat first | with_reducible exact .nil _ | with_reducible exact .here _ _ | with_reducible exact Take.self _ | with_reducible apply Take.cons | with_reducible apply Out.there | with_reducible apply Take.skip | with_reducible exact Take.pre _ _ | with_reducible apply Out.app)⟩

theorem mAlln (s : BitVec 32) : Ctr Tryd.prog B 16 [.int .u32 s.toNat] [] (fun v S => ∃ b : Nat, True ∧ v = .func (.func 21) #[] #[.pointer (some ⟨b, 0, none⟩)] ∧ S = [blk b [.int .u32 s.toNat] 23] ++ []) := (mAll s).mono fun v S ⟨b, h1, h2⟩ => ⟨b, trivial, h1, h2⟩

theorem allItr (b : Nat) (s : BitVec 32) (hK : Rd K ⟨0, 0, none⟩ (tab32.map fun m => .int .u8 m)) :
    Itr Tryd.prog B 21 [.pointer (some ⟨b, 0, none⟩)] [blk b [.int .u32 s.toNat] 23, K] ((listI s).map fun n => [.int .i64 n]) := by
  intro ly J Jx S0 hJ0 hy
  change Ctr _ _ _ _ (blk b [.int .u32 s.toNat] 23 :: K :: S0) _
  refine Ctr_of_X (N := 16) Tryd.func21 rfl (by simp) rfl ?_
  intro w0 D0
  refine X_seq ?_
  refine X_region ?_
  refine XL_det .no (D_ldo rfl (by repeat first | with_reducible exact .here _ _ | with_reducible apply Out.there | with_reducible apply Out.app) tk_23 (by rfl)) rfl ?_
  refine XL_det .no (D_pure rfl) rfl ?_
  refine XL_then ?_
  refine X_block ?_
  refine X_loop (α := BitVec 32 × Nat × List (Asrt B)) (fun ⟨t, i, S1⟩ => i ≤ (listI s).length ∧ (listI s).drop i = listI t ∧ J i S1) (fun ⟨t, i, S1⟩ => [(3, .int .u32 t.toNat), (0, .func (.yield ly) #[] #[]), (1, .pointer (some ⟨b, 0, none⟩))]) (fun ⟨t, i, S1⟩ => blk b [.int .u32 s.toNat] 23 :: K :: S1) (fun ⟨t, i, S1⟩ => (listI s).length - i) (s, 0, S0) ?_ (by refine ⟨?_, ?_, ?_, trivial⟩ <;> rfl) (by repeat first | with_reducible exact .nil _ | with_reducible exact .here _ _ | with_reducible exact Take.self _ | with_reducible apply Take.cons | with_reducible apply Out.there | with_reducible apply Take.skip | with_reducible exact Take.pre _ _ | with_reducible apply Out.app) ?_
  · exact ⟨Nat.zero_le _, rfl, hJ0⟩
  · rintro ⟨t, i, S1⟩ ⟨hi, hdr, hJ⟩
    dsimp only
    refine X_seq ?_
    refine X_seq ?_
    refine X_region ?_
    refine XL_det .no (D_pure rfl) rfl ?_
    refine XL_det .no (D_pure rfl) rfl ?_
    refine XL_then ?_
    refine X_cond rfl (fun h1 => ?_) (fun h1 => ?_)
    · try simp only [decide_eq_true_eq, decide_eq_false_iff_not, Bool.not_eq_true', Bool.not_eq_false', beq_iff_eq, bne_iff_ne, beq_eq_false_iff_ne, bne_eq_false_iff_eq, Int.not_lt, Int.not_le, gt_iff_lt, ge_iff_le, ne_eq] at h1
      have ht := ne_zero_of h1
      rw [list_pred ht] at hdr
      obtain ⟨hlt, hget, hdr2⟩ := drop_get hdr
      have hyy := hy i S1 (by rw [List.length_map]; exact hlt) hJ
      rw [map_get hget] at hyy
      refine X_skip ?_
      refine thenX_normal ?_
      refine X_seq ?_
      refine X_block ?_
      refine X_seq ?_
      refine X_region ?_
      refine XL_det .no (D_pure rfl) rfl ?_
      refine XL_det .no (D_pure rfl) rfl ?_
      refine XL_callk .no en_22 rfl (tz1 hK ht) (by repeat first | with_reducible exact .nil _ | with_reducible exact .here _ _ | with_reducible exact Take.self _ | with_reducible apply Take.cons | with_reducible apply Out.there | with_reducible apply Take.skip | with_reducible exact Take.pre _ _ | with_reducible apply Out.app) rfl ?_
      refine XL_yield (own := [blk b [.int .u32 s.toNat] 23, K]) (Si := S1) .no rfl rfl hyy rfl ?_
      rintro bb S2 hp
      simp only [List.cons_append, List.nil_append]
      refine XL_det .no (D_pure rfl) rfl ?_
      refine XL_then ?_
      refine X_cond rfl (fun h2 => ?_) (fun h2 => ?_)
      · try simp only [decide_eq_true_eq, decide_eq_false_iff_not, Bool.not_eq_true', Bool.not_eq_false', beq_iff_eq, bne_iff_ne, beq_eq_false_iff_ne, bne_eq_false_iff_eq, Int.not_lt, Int.not_le, gt_iff_lt, ge_iff_le, ne_eq] at h2
        refine X_ret ?_
        refine inBlk_ret ?_
        refine thenX_ret ?_
        refine loopQ_ret ?_
        refine inBlk_ret ?_
        refine ret_ok (.nil _) (res_none rfl) ?_
        obtain ⟨h, _⟩ | ⟨_, hp⟩ := hp
        · rw [h] at h2; cases h2
        exact ⟨blk b [.int .u32 s.toNat] 23 :: K :: S2, ⟨S2, rfl, .inr ⟨i, by rw [List.length_map]; exact hlt, hp⟩⟩, _, (by repeat first | with_reducible exact .nil _ | with_reducible exact .here _ _ | with_reducible exact Take.self _ | with_reducible apply Take.cons | with_reducible apply Out.there | with_reducible apply Take.skip | with_reducible exact Take.pre _ _ | with_reducible apply Out.app)⟩
      · try simp only [decide_eq_true_eq, decide_eq_false_iff_not, Bool.not_eq_true', Bool.not_eq_false', beq_iff_eq, bne_iff_ne, beq_eq_false_iff_ne, bne_eq_false_iff_eq, Int.not_lt, Int.not_le, gt_iff_lt, ge_iff_le, ne_eq] at h2
        obtain ⟨_, hp⟩ | ⟨h, _⟩ := hp
        rotate_left
        · rw [h] at h2; cases h2
        refine X_skip ?_
        refine inBlk_normal ?_
        refine thenX_normal ?_
        refine X_region ?_
        refine XL_det .no (D_pure rfl) rfl ?_
        refine XL_det .no (D_pure rfl) rfl ?_
        refine XL_det .no (D_bv rfl rfl (bvo _) rfl rfl) rfl ?_
        refine XL_det .no (D_bv rfl rfl (bvo _) (bvo _) rfl) rfl ?_
        refine XL_det .no (D_pure rfl) rfl ?_
        refine XL_nil ?_
        refine loopQ_next (t &&& (t - 1#32), i + 1, S2) ?_ ?_ ?_ ?_
        · (try dsimp only); exact ⟨hlt, hdr2, hp⟩
        · (try dsimp only); omega
        · refine ⟨?_, ?_, ?_, trivial⟩ <;> rfl
        · (try dsimp only); exact ⟨_, (by repeat first | with_reducible exact .nil _ | with_reducible exact .here _ _ | with_reducible exact Take.self _ | with_reducible apply Take.cons | with_reducible apply Out.there | with_reducible apply Take.skip | with_reducible exact Take.pre _ _ | with_reducible apply Out.app)⟩
    · try simp only [decide_eq_true_eq, decide_eq_false_iff_not, Bool.not_eq_true', Bool.not_eq_false', beq_iff_eq, bne_iff_ne, beq_eq_false_iff_ne, bne_eq_false_iff_eq, Int.not_lt, Int.not_le, gt_iff_lt, ge_iff_le, ne_eq] at h1
      refine X_exit ?_
      refine thenX_exit ?_
      refine loopQ_exit ?_
      refine inBlk_here ?_
      refine ret_okn (.nil _) (res_none rfl) ?_
      have ht := eq_zero_of h1
      rw [ht, list_zero] at hdr
      have hie : i = (listI s).length := by have := List.drop_eq_nil_iff.1 hdr; omega
      subst hie
      exact ⟨blk b [.int .u32 s.toNat] 23 :: K :: S1, ⟨S1, rfl, .inl (by rw [List.length_map]; exact hJ)⟩, _, (by repeat first | with_reducible exact .nil _ | with_reducible exact .here _ _ | with_reducible exact Take.self _ | with_reducible apply Take.cons | with_reducible apply Out.there | with_reducible apply Take.skip | with_reducible exact Take.pre _ _ | with_reducible apply Out.app)⟩

theorem has (s : BitVec 32) (i : Int) : Ctr Tryd.prog B 6 [.int .u32 s.toNat, .int .i64 i] [] (fun v S => v = .bool (hasB s i) ∧ S = []) := by
  refine Ctr_of_X (N := 19) Tryd.func6 rfl (by simp) rfl ?_
  intro w0 D0
  refine X_seq ?_
  refine X_region ?_
  refine XL_det .no (D_pure rfl) rfl ?_
  refine XL_then ?_
  refine X_seq ?_
  refine X_region ?_
  refine XL_det .no (D_pure rfl) rfl ?_
  refine XL_det .no (D_pure rfl) rfl ?_
  refine XL_det .no (D_pure rfl) rfl ?_
  refine XL_split (t := 7) rfl (fun h1 => ?_) (fun h1 => ?_)
  · try simp only [decide_eq_true_eq, decide_eq_false_iff_not, Bool.not_eq_true', Bool.not_eq_false', beq_iff_eq, bne_iff_ne, beq_eq_false_iff_ne, bne_eq_false_iff_eq, Int.not_lt, Int.not_le, gt_iff_lt, ge_iff_le, ne_eq] at h1
    refine XL_det (.yes 7 rfl rfl rfl) (D_pure rfl) rfl ?_
    refine XL_det (.yes 7 rfl rfl rfl) (D_pure rfl) rfl ?_
    refine XL_det .no (D_pure rfl) rfl ?_
    refine XL_det .no (D_pure rfl) rfl ?_
    refine XL_split (t := 11) rfl (fun h2 => ?_) (fun h2 => ?_)
    · try simp only [decide_eq_true_eq, decide_eq_false_iff_not, Bool.not_eq_true', Bool.not_eq_false', beq_iff_eq, bne_iff_ne, beq_eq_false_iff_ne, bne_eq_false_iff_eq, Int.not_lt, Int.not_le, gt_iff_lt, ge_iff_le, ne_eq] at h2
      refine XL_det (.yes 11 rfl rfl rfl) (D_pure rfl) rfl ?_
      refine XL_det (.yes 11 rfl rfl rfl) (D_pure rfl) rfl ?_
      refine XL_det (.yes 11 rfl rfl rfl) (D_cvt rfl cvt_3_42 (u64_in (by omega) (by omega))) rfl ?_
      refine XL_det (.yes 11 rfl rfl rfl) (D_bvshr rfl rfl rfl (by omega) (by omega)) rfl ?_
      refine XL_det (.yes 11 rfl rfl rfl) (D_bvrem (b := 2#32) rfl rfl rfl rfl (by decide)) rfl ?_
      refine XL_det (.yes 11 rfl rfl rfl) (D_pure rfl) rfl ?_
      refine XL_det .no (D_pure rfl) rfl ?_
      refine XL_det .no (D_pure rfl) rfl ?_
      refine XL_then ?_
      refine X_ret ?_
      refine ret_ok (.nil _) (res_tmp rfl rfl) ?_
      exact ⟨_, ⟨by rw [hasB_in s i h1 h2], rfl⟩, _, (by repeat first | with_reducible exact .nil _ | with_reducible exact .here _ _ | with_reducible exact Take.self _ | with_reducible apply Take.cons | with_reducible apply Out.there | with_reducible apply Take.skip | with_reducible exact Take.pre _ _ | with_reducible apply Out.app)⟩
    · try simp only [decide_eq_true_eq, decide_eq_false_iff_not, Bool.not_eq_true', Bool.not_eq_false', beq_iff_eq, bne_iff_ne, beq_eq_false_iff_ne, bne_eq_false_iff_eq, Int.not_lt, Int.not_le, gt_iff_lt, ge_iff_le, ne_eq] at h2
      refine XL_skip 11 rfl rfl rfl rfl rfl ?_
      refine XL_skip 11 rfl rfl rfl rfl rfl ?_
      refine XL_skip 11 rfl rfl rfl rfl rfl ?_
      refine XL_skip 11 rfl rfl rfl rfl rfl ?_
      refine XL_skip 11 rfl rfl rfl rfl rfl ?_
      refine XL_skip 11 rfl rfl rfl rfl rfl ?_
      refine XL_det .no (D_pure rfl) rfl ?_
      refine XL_det .no (D_pure rfl) rfl ?_
      refine XL_then ?_
      refine X_ret ?_
      refine ret_ok (.nil _) (res_tmp rfl rfl) ?_
      exact ⟨_, ⟨by rw [hasB_out s i (by omega)], rfl⟩, _, (by repeat first | with_reducible exact .nil _ | with_reducible exact .here _ _ | with_reducible exact Take.self _ | with_reducible apply Take.cons | with_reducible apply Out.there | with_reducible apply Take.skip | with_reducible exact Take.pre _ _ | with_reducible apply Out.app)⟩
  · try simp only [decide_eq_true_eq, decide_eq_false_iff_not, Bool.not_eq_true', Bool.not_eq_false', beq_iff_eq, bne_iff_ne, beq_eq_false_iff_ne, bne_eq_false_iff_eq, Int.not_lt, Int.not_le, gt_iff_lt, ge_iff_le, ne_eq] at h1
    refine XL_skip 7 rfl rfl rfl rfl rfl ?_
    refine XL_skip 7 rfl rfl rfl rfl rfl ?_
    refine XL_det .no (D_pure rfl) rfl ?_
    refine XL_det .no (D_pure rfl) rfl ?_
    refine XL_skip 11 rfl rfl rfl rfl rfl ?_
    refine XL_skip 11 rfl rfl rfl rfl rfl ?_
    refine XL_skip 11 rfl rfl rfl rfl rfl ?_
    refine XL_skip 11 rfl rfl rfl rfl rfl ?_
    refine XL_skip 11 rfl rfl rfl rfl rfl ?_
    refine XL_skip 11 rfl rfl rfl rfl rfl ?_
    refine XL_det .no (D_pure rfl) rfl ?_
    refine XL_det .no (D_pure rfl) rfl ?_
    refine XL_then ?_
    refine X_ret ?_
    refine ret_ok (.nil _) (res_tmp rfl rfl) ?_
    exact ⟨_, ⟨by rw [hasB_out s i (by omega)], rfl⟩, _, (by repeat first | with_reducible exact .nil _ | with_reducible exact .here _ _ | with_reducible exact Take.self _ | with_reducible apply Take.cons | with_reducible apply Out.there | with_reducible apply Take.skip | with_reducible exact Take.pre _ _ | with_reducible apply Out.app)⟩

end Go.Proofs.YtjcpggoodbkedaaDoor
end

section
namespace Go.Proofs.YtjcpggoodbkedaaDoor
open Go Go.Sl
set_option linter.unusedVariables false
set_option linter.unusedSimpArgs false
set_option maxRecDepth 4000
variable {B : Nat} {K : Asrt B}
theorem bstr_29_9 : bstr Tryd.prog 29 9 = true := by kernel_rfl
theorem cvt_3_5 : cvtK Tryd.prog 3 5 = some .u8 := by kernel_rfl
theorem mixed : Tryd.prog.follows .mixedOrders = true := by kernel_rfl
theorem slc_29 : slcOf Tryd.prog 29 = some (5, 1) := by kernel_rfl
theorem slt_29 : slT Tryd.prog 29 = some (5, 1, 1, [.int .u8 0]) := by kernel_rfl

def dg (m : Nat) : UInt8 := UInt8.ofNat (48 + m % 10)
theorem dg_nat (m : Nat) : (dg m).toNat = 48 + m % 10 := by
  unfold dg; rw [UInt8.toNat_ofNat']; omega
theorem dg_wrap (m : Nat) : IntKind.u8.wrap (48 + ((m % 10 : Nat) : Int)) = ((dg m).toNat : Int) := by
  rw [dg_nat]
  show (48 + ((m % 10 : Nat) : Int)) % 256 = _
  omega
theorem tmod10 (m : Nat) : Int.tmod (m : Int) 10 = ((m % 10 : Nat) : Int) := by rw [Int.tmod_eq_emod_of_nonneg (by omega)]; omega
theorem tdiv10 (m : Nat) : Int.tdiv (m : Int) 10 = ((m / 10 : Nat) : Int) := by rw [Int.tdiv_eq_ediv_of_nonneg (by omega)]; omega
/-- The figures of a number, the last one first. -/
def rdF : Nat → Nat → List UInt8
  | 0, _ => []
  | f + 1, n => if n = 0 then [] else dg n :: rdF f (n / 10)
def rd (m : Nat) : List UInt8 := dg m :: rdF 10 (m / 10)
theorem rdF_0 : ∀ f, rdF f 0 = []
  | 0 => rfl
  | f + 1 => rfl
theorem rdF_s {f m : Nat} (h0 : 0 < m) (h : m < 10 ^ f) : ∃ f2, f = f2 + 1 ∧ rdF f m = dg m :: rdF f2 (m / 10) ∧ m / 10 < 10 ^ f2 := by
  cases f with
  | zero => simp at h; omega
  | succ f => exact ⟨f, rfl, by rw [rdF, if_neg (by omega)], by rw [Nat.pow_succ] at h; omega⟩
def clamp (n : Int) : Nat := (min (max n 0) 2147483647).toNat
theorem clamp_le (n : Int) : clamp n ≤ 2147483647 := by unfold clamp; omega
theorem clamp_eq (n : Int) : min (max n 0) 2147483647 = (clamp n : Int) := by unfold clamp; omega
/-- A number's text. -/
def txt (n : Int) : List UInt8 := (rd (clamp n)).reverse
/-- So far turned about. -/
def Turned (o xs : List UInt8) (i : Nat) : Prop := xs.length = o.length ∧ ∀ j, j < o.length → xs[j]? = if j < i ∨ o.length - 1 - i < j then o[o.length - 1 - j]? else o[j]?
theorem turned_0 (o : List UInt8) (h : 0 < o.length) : Turned o o 0 := ⟨rfl, fun j hj => by rw [if_neg (by omega)]⟩
theorem turned_end {o xs : List UInt8} {i : Nat} (h : Turned o xs i) (hi : o.length ≤ 2 * i + 1) : xs = o.reverse := by
  apply List.ext_getElem?
  intro j
  by_cases hj : j < o.length
  · rw [h.2 j hj, List.getElem?_reverse hj]
    split
    · rfl
    · rw [show o.length - 1 - j = j by omega]
  · rw [List.getElem?_eq_none (by rw [h.1]; omega), List.getElem?_eq_none (by simp; omega)]
theorem turned_s {o xs : List UInt8} {i k : Nat} {a b : UInt8} (h : Turned o xs i) (hk : k = o.length - 1 - i) (hik : i < k) (ha : xs[i]? = some a) (hb : xs[k]? = some b) : Turned o ((xs.set i b).set k a) (i + 1) := by
  have hl := h.1
  refine ⟨by simp [hl], fun j hj => ?_⟩
  have h1 := h.2 i (by omega); rw [if_neg (by omega), ha] at h1
  have h2 := h.2 k (by omega); rw [if_neg (by omega), hb] at h2
  by_cases e1 : j = k
  · subst e1
    rw [List.getElem?_set_self (by simp; omega), if_pos (by omega), show o.length - 1 - j = i by omega]; exact h1
  · rw [List.getElem?_set_ne (by omega)]
    by_cases e2 : j = i
    · subst e2
      rw [List.getElem?_set_self (by omega), if_pos (by omega), show o.length - 1 - j = k by omega]; exact h2
    · rw [List.getElem?_set_ne (by omega), h.2 j hj]
      by_cases e3 : j < i ∨ o.length - 1 - i < j
      · rw [if_pos e3, if_pos (by omega)]
      · rw [if_neg e3, if_neg (by omega)]
theorem turned_s' {o xs : List UInt8} {i k : Nat} {a b : UInt8} (h : Turned o xs i) (hk : k = o.length - 1 - i) (hik : i < k) (ha : xs[i]? = some a) (hb : xs[k]? = some b) : Turned o ((xs.set k a).set i b) (i + 1) := by
  rw [List.set_comm _ _ (by omega)]; exact turned_s h hk hik ha hb

theorem dtext (n : Int) : Ctr Tryd.prog B 17 [.int .i64 n] [] (fun v S => v = str (txt n) ∧ S = []) := by
  refine Ctr_of_X (N := 53) Tryd.func17 rfl (by simp) rfl ?_
  intro w0 D0
  refine X_seq ?_
  refine X_region ?_
  refine XL_det .no (D_pure rfl) rfl ?_
  refine XL_then ?_
  refine X_seq ?_
  refine X_region ?_
  refine XL_det .no (D_pure rfl) rfl ?_
  refine XL_det .no (D_max rfl rfl) rfl ?_
  refine XL_det .no (D_min rfl rfl) rfl ?_
  rw [clamp_eq n]
  refine XL_det .no (D_pure rfl) rfl ?_
  refine XL_then ?_
  refine X_seq ?_
  refine X_region ?_
  refine XL_det .no (D_pure rfl) rfl ?_
  refine XL_det .no (D_divmod (z := (((clamp n) % 10 : Nat) : Int)) rfl rfl (by decide) (tmod10 (clamp n))) rfl ?_
  refine XL_det .no (D_add (m := 48) (n := (((clamp n) % 10 : Nat) : Int)) rfl rfl (by omega) (by omega)) rfl ?_
  refine XL_det .no (D_cvt (z := ((dg (clamp n)).toNat : Int)) rfl cvt_3_5 (dg_wrap (clamp n))) rfl ?_
  refine XL_bslice (cs := encB (dg (clamp n))) .no rfl slt_29 (by decide) (by decide) (by rfl) (by rfl) rfl rfl (fun b1 => ?_)
  refine XL_det .no (D_pure rfl) rfl ?_
  refine XL_then ?_
  refine X_seq ?_
  refine X_seq ?_
  refine X_region ?_
  refine XL_det .no (D_pure rfl) rfl ?_
  refine XL_det .no (D_divmod (z := (((clamp n) / 10 : Nat) : Int)) rfl rfl (by decide) (by show IntKind.i64.wrap _ = _; rw [tdiv10]; exact i64_in' (by omega) (by have := clamp_le n; omega))) rfl ?_
  refine XL_det .no (D_pure rfl) rfl ?_
  refine XL_then ?_
  refine X_block ?_
  refine X_blkrow (b := b1) (cs := encB (dg (clamp n))) encB [dg (clamp n)] (by simp) (fun _ => rfl) (by simp [maxLen]) rfl (by repeat first | with_reducible exact .here _ _ | with_reducible apply Out.there | with_reducible apply Out.app) ?_
  refine X_loop (α := Nat × Nat × Arr UInt8) (fun ⟨m, f, c⟩ => m ≤ 2147483647 ∧ m < 10 ^ f ∧ c.l ++ rdF f m = rd (clamp n) ∧ c.l.length + f ≤ 11 ∧ 0 < c.l.length ∧ c.Own) (fun ⟨m, f, c⟩ => [(0, .int .i64 (m : Int)), (3, .slice c.oad c.l.length c.c)]) (fun ⟨m, f, c⟩ => [row (.slice c.oad c.l.length c.c) 5 1 c.l.length (c.l.flatMap encB)]) (fun ⟨m, f, c⟩ => m) ((clamp n) / 10, 10, Arr.lit b1 [dg (clamp n)] (by simp)) ?_ (by refine ⟨?_, ?_, trivial⟩ <;> rfl) (by repeat first | with_reducible exact .nil _ | with_reducible exact .here _ _ | with_reducible exact Take.self _ | with_reducible apply Take.cons | with_reducible apply Out.there | with_reducible apply Take.skip | with_reducible exact Take.pre _ _ | with_reducible apply Out.app) ?_
  · have hcn := clamp_le n; exact ⟨by show clamp n / 10 ≤ _; omega, by show clamp n / 10 < 10 ^ 10; omega, rfl, by show 1 + 10 ≤ 11; decide, by show 0 < 1; decide, Arr.lit_own⟩
  · rintro ⟨m, f, c⟩ ⟨hmm, hm, hc, hcl, hc0, hown⟩
    dsimp only
    refine X_seq ?_
    refine X_seq ?_
    refine X_region ?_
    refine XL_det .no (D_pure rfl) rfl ?_
    refine XL_det .no (D_pure rfl) rfl ?_
    refine XL_then ?_
    refine X_cond rfl (fun h1 => ?_) (fun h1 => ?_)
    · try simp only [decide_eq_true_eq, decide_eq_false_iff_not, Bool.not_eq_true', Bool.not_eq_false', beq_iff_eq, bne_iff_ne, beq_eq_false_iff_ne, bne_eq_false_iff_eq, Int.not_lt, Int.not_le, gt_iff_lt, ge_iff_le, ne_eq] at h1
      obtain ⟨f2, rfl, hf1, hf2⟩ := rdF_s (by omega) hm
      refine X_skip ?_
      refine thenX_normal ?_
      refine X_seq ?_
      refine X_block ?_
      refine X_region ?_
      refine XL_det .no (D_pure rfl) rfl ?_
      refine XL_det .no (D_pure rfl) rfl ?_
      refine XL_det .no (D_divmod (z := ((m % 10 : Nat) : Int)) rfl rfl (by decide) (tmod10 m)) rfl ?_
      refine XL_det .no (D_add (m := 48) (n := ((m % 10 : Nat) : Int)) rfl rfl (by omega) (by omega)) rfl ?_
      refine XL_det .no (D_cvt (z := ((dg m).toNat : Int)) rfl cvt_3_5 (dg_wrap m)) rfl ?_
      refine XL_bslice (cs := encB (dg m)) .no rfl slt_29 (by decide) (by decide) (by rfl) (by rfl) rfl rfl (fun b2 => ?_)
      refine XL_app1 (enc := encB) (c := c) (y := (dg m)) (K := _) .no rfl rfl slt_29 (by repeat first | with_reducible exact .here _ _ | with_reducible apply Out.there | with_reducible apply Out.app) (by repeat first | with_reducible exact .here _ _ | with_reducible apply Out.there | with_reducible apply Out.app) (Rd_blk0) rfl rfl (by omega) (by omega) rfl (fun a2 ha2 ha2o => ?_)
      refine XL_det .no (D_pure rfl) rfl ?_
      refine XL_nil ?_
      refine inBlk_normal ?_
      refine thenX_normal ?_
      refine X_region ?_
      refine XL_det .no (D_pure rfl) rfl ?_
      refine XL_det .no (D_divmod (z := ((m / 10 : Nat) : Int)) rfl rfl (by decide) (by show IntKind.i64.wrap _ = _; rw [tdiv10]; exact i64_in' (by omega) (by omega))) rfl ?_
      refine XL_det .no (D_pure rfl) rfl ?_
      refine XL_nil ?_
      refine loopQ_next (m / 10, f2, a2) ?_ ?_ ?_ ?_
      · (try dsimp only); exact ⟨by omega, hf2, by rw [ha2, ← hc, hf1]; simp, by rw [ha2]; simp; omega, by rw [ha2]; simp, ha2o⟩
      · (try dsimp only); omega
      · refine ⟨?_, ?_, trivial⟩ <;> rfl
      · (try dsimp only); exact ⟨_, (by repeat first | with_reducible exact .nil _ | with_reducible exact .here _ _ | with_reducible exact Take.self _ | with_reducible apply Take.cons | with_reducible apply Out.there | with_reducible apply Take.skip | with_reducible exact Take.pre _ _ | with_reducible apply Out.app)⟩
    · try simp only [decide_eq_true_eq, decide_eq_false_iff_not, Bool.not_eq_true', Bool.not_eq_false', beq_iff_eq, bne_iff_ne, beq_eq_false_iff_ne, bne_eq_false_iff_eq, Int.not_lt, Int.not_le, gt_iff_lt, ge_iff_le, ne_eq] at h1
      obtain rfl : m = 0 := by omega
      rw [rdF_0, List.append_nil] at hc
      refine X_exit ?_
      refine thenX_exit ?_
      refine loopQ_exit ?_
      refine inBlk_here ?_
      refine thenX_normal ?_
      refine X_seq ?_
      refine X_seq ?_
      refine X_region ?_
      refine XL_det .no (D_pure rfl) rfl ?_
      refine XL_det .no (D_len rfl rfl slc_29) rfl ?_
      refine XL_det .no (D_sub rfl rfl (by omega) (by omega)) rfl ?_
      refine XL_det .no (D_pure rfl) rfl ?_
      refine XL_det .no (D_pure rfl) rfl ?_
      refine XL_then ?_
      refine X_block ?_
      refine X_loop (α := Nat × Int × List UInt8) (fun ⟨i, kk, xs⟩ => Turned c.l xs i ∧ i ≤ c.l.length ∧ kk = (c.l.length : Int) - 1 - (i : Int)) (fun ⟨i, kk, xs⟩ => [(4, .int .i64 (i : Int)), (5, .int .i64 kk), (3, .slice c.oad c.l.length c.c)]) (fun ⟨i, kk, xs⟩ => [row (.slice c.oad c.l.length c.c) 5 1 c.l.length (xs.flatMap encB)]) (fun ⟨i, kk, xs⟩ => c.l.length - i) (0, (c.l.length : Int) - 1, c.l) ?_ (by refine ⟨?_, ?_, ?_, trivial⟩ <;> rfl) (by repeat first | with_reducible exact .nil _ | with_reducible exact .here _ _ | with_reducible exact Take.self _ | with_reducible apply Take.cons | with_reducible apply Out.there | with_reducible apply Take.skip | with_reducible exact Take.pre _ _ | with_reducible apply Out.app) ?_
      · exact ⟨turned_0 _ hc0, Nat.zero_le _, by show _ = _ - ((0 : Nat) : Int); omega⟩
      · rintro ⟨i, kk, xs⟩ ⟨hx, hi, hkk⟩
        dsimp only
        have hxl := hx.1
        refine X_seq ?_
        refine X_seq ?_
        refine X_region ?_
        refine XL_det .no (D_pure rfl) rfl ?_
        refine XL_det .no (D_pure rfl) rfl ?_
        refine XL_det .no (D_pure rfl) rfl ?_
        refine XL_then ?_
        refine X_cond rfl (fun h2 => ?_) (fun h2 => ?_)
        · try simp only [decide_eq_true_eq, decide_eq_false_iff_not, Bool.not_eq_true', Bool.not_eq_false', beq_iff_eq, bne_iff_ne, beq_eq_false_iff_ne, bne_eq_false_iff_eq, Int.not_lt, Int.not_le, gt_iff_lt, ge_iff_le, ne_eq] at h2
          obtain ⟨k, hk⟩ : ∃ k : Nat, kk = (k : Int) := ⟨c.l.length - 1 - i, by omega⟩
          obtain ⟨y1, hg1⟩ : ∃ y, xs[i]? = some y := ⟨_, List.getElem?_eq_getElem (by omega)⟩
          obtain ⟨y2, hg2⟩ : ∃ y, xs[k]? = some y := ⟨_, List.getElem?_eq_getElem (by omega)⟩
          refine X_skip ?_
          refine thenX_normal ?_
          refine X_seq ?_
          refine X_block ?_
          refine X_draw _ mixed (Take.self _) ?_
          refine XA_detp 0 rfl (by kernel_rfl) (by kernel_rfl) (by kernel_rfl) (fun _ _ _ _ h => h) .no (D_pureP rfl) rfl ?_
          refine XA_detp 1 rfl (by kernel_rfl) (by kernel_rfl) (by kernel_rfl) (fun _ _ _ _ h => h) .no (D_pureP rfl) rfl ?_
          refine XA_detp 2 rfl (by kernel_rfl) (by kernel_rfl) (by kernel_rfl) (fun _ _ _ _ h => h) .no (D_pureP rfl) rfl ?_
          refine XA_detp 3 rfl (by kernel_rfl) (by kernel_rfl) (by kernel_rfl) (fun _ _ _ _ h => h) .no (D_pureP rfl) rfl ?_
          refine XA_detp 4 rfl (by kernel_rfl) (by kernel_rfl) (by kernel_rfl) (fun _ _ _ _ h => h) .no (D_pureP rfl) rfl ?_
          refine XA_detp 5 rfl (by kernel_rfl) (by kernel_rfl) (by kernel_rfl) (fun _ _ _ _ h => h) .no (D_pureP rfl) rfl ?_
          refine XA_detp 6 rfl (by kernel_rfl) (by kernel_rfl) (by kernel_rfl) (fun _ _ _ _ h => h) .no (D_idxSoP (j := k) rfl rfl slc_29 (c).nil0 hk (by omega) rfl) rfl ?_
          refine XA_det 7 rfl (by kernel_rfl) (by kernel_rfl) (by kernel_rfl) (by kernel_rfl) (fun _ _ _ _ h => h) .no (D_ela (enc := encB) (sz := 1) (i := k) (k := 0) (fun _ => rfl) rfl (by repeat first | with_reducible exact .here _ _ | with_reducible apply Out.there | with_reducible apply Out.app) (Rd_rowx hown rfl hx.1) tk_5 hg2 rfl) rfl ?_
          refine XA_detp 8 rfl (by kernel_rfl) (by kernel_rfl) (by kernel_rfl) (fun _ _ _ _ h => h) .no (D_pureP rfl) rfl ?_
          refine XA_detp 9 rfl (by kernel_rfl) (by kernel_rfl) (by kernel_rfl) (fun _ _ _ _ h => h) .no (D_pureP rfl) rfl ?_
          refine XA_detp 10 rfl (by kernel_rfl) (by kernel_rfl) (by kernel_rfl) (fun _ _ _ _ h => h) .no (D_idxSoP rfl rfl slc_29 (c).nil0 rfl (by omega) rfl) rfl ?_
          refine XA_det 11 rfl (by kernel_rfl) (by kernel_rfl) (by kernel_rfl) (by kernel_rfl) (fun _ _ _ _ h => h) .no (D_ela (enc := encB) (sz := 1) (i := i) (k := 0) (fun _ => rfl) rfl (by repeat first | with_reducible exact .here _ _ | with_reducible apply Out.there | with_reducible apply Out.app) (Rd_rowx hown rfl hx.1) tk_5 hg1 rfl) rfl ?_
          refine XA_detp 12 rfl (by kernel_rfl) (by kernel_rfl) (by kernel_rfl) (fun _ _ _ _ h => h) .no (D_idxSoP rfl rfl slc_29 (c).nil0 rfl (by omega) rfl) rfl ?_
          refine XA_one 13 (by kernel_rfl) ?_
          refine XO_efd rfl .no (by repeat first | with_reducible exact .nil _ | with_reducible apply App.cons) (F_rst (enc := encB) (i := i) (y := y2) hown rfl rfl (fun _ => rfl) rfl rfl (by repeat first | with_reducible exact .here _ _ | with_reducible apply Out.there | with_reducible apply Out.app) tk_5 (by first | omega | (simp; omega)) rfl) (by kernel_rfl) ?_
          refine XA_detp 14 rfl (by kernel_rfl) (by kernel_rfl) (by kernel_rfl) (fun _ _ _ _ h => h) .no (D_idxSoP (j := k) rfl rfl slc_29 (c).nil0 hk (by omega) rfl) rfl ?_
          refine XA_one 15 (by kernel_rfl) ?_
          refine XO_efd rfl .no (by repeat first | with_reducible exact .nil _ | with_reducible apply App.cons) (F_rst (enc := encB) (i := k) (y := y1) hown rfl rfl (fun _ => rfl) rfl rfl (by repeat first | with_reducible exact .here _ _ | with_reducible apply Out.there | with_reducible apply Out.app) tk_5 (by first | omega | (simp; omega)) rfl) (by kernel_rfl) ?_
          refine XA_done (by kernel_rfl) ?_
          try simp only [List.cons_append, List.nil_append, List.append_nil]
          refine inBlk_normal ?_
          refine thenX_normal ?_
          refine X_region ?_
          refine XL_det .no (D_pure rfl) rfl ?_
          refine XL_det .no (D_add rfl rfl (by omega) (by omega)) rfl ?_
          refine XL_det .no (D_pure rfl) rfl ?_
          refine XL_det .no (D_sub rfl rfl (by omega) (by omega)) rfl ?_
          refine XL_det .no (D_pure rfl) rfl ?_
          refine XL_det .no (D_pure rfl) rfl ?_
          refine XL_nil ?_
          refine loopQ_next (i + 1, kk - 1, (xs.set i y2).set k y1) ?_ ?_ ?_ ?_
          · (try dsimp only); exact ⟨turned_s hx (by omega) (by omega) hg1 hg2, by omega, by show kk - 1 = _ - ((i + 1 : Nat) : Int); omega⟩
          · (try dsimp only); omega
          · refine ⟨?_, ?_, ?_, trivial⟩ <;> rfl
          · (try dsimp only); exact ⟨_, (by repeat first | with_reducible exact .nil _ | with_reducible exact .here _ _ | with_reducible exact Take.self _ | with_reducible apply Take.cons | with_reducible apply Out.there | with_reducible apply Take.skip | with_reducible exact Take.pre _ _ | with_reducible apply Out.app)⟩
        · try simp only [decide_eq_true_eq, decide_eq_false_iff_not, Bool.not_eq_true', Bool.not_eq_false', beq_iff_eq, bne_iff_ne, beq_eq_false_iff_ne, bne_eq_false_iff_eq, Int.not_lt, Int.not_le, gt_iff_lt, ge_iff_le, ne_eq] at h2
          have hrev : xs = c.l.reverse := turned_end hx (by omega)
          refine X_exit ?_
          refine thenX_exit ?_
          refine loopQ_exit ?_
          refine inBlk_here ?_
          refine thenX_normal ?_
          refine X_seq ?_
          refine X_region ?_
          refine XL_det .no (D_pure rfl) rfl ?_
          refine XL_det .no (D_bstr (a := c) (l := xs) rfl (by repeat first | with_reducible exact .here _ _ | with_reducible apply Out.there | with_reducible apply Out.app) (Rd_rowx hown rfl hx.1) hx.1 bstr_29_9) rfl ?_
          refine XL_det .no (D_pure rfl) rfl ?_
          refine XL_then ?_
          refine X_ret ?_
          refine ret_ok (.nil _) (res_tmp rfl rfl) ?_
          exact ⟨_, ⟨by rw [hrev, hc]; rfl, rfl⟩, _, (by repeat first | with_reducible exact .nil _ | with_reducible exact .here _ _ | with_reducible exact Take.self _ | with_reducible apply Take.cons | with_reducible apply Out.there | with_reducible apply Take.skip | with_reducible exact Take.pre _ _ | with_reducible apply Out.app)⟩

end Go.Proofs.YtjcpggoodbkedaaDoor
end

section
namespace Go.Proofs.YtjcpggoodbkedaaDoor
open Go Go.Sl
set_option linter.unusedVariables false
set_option linter.unusedSimpArgs false
set_option maxRecDepth 4000
variable {B : Nat} {K : Asrt B}
theorem fld_38_1 : fldOff Tryd.prog 38 1 = some 1 := by kernel_rfl
theorem slc_26 : slcOf Tryd.prog 26 = some (38, 4) := by kernel_rfl
theorem tk_26 : tyK Tryd.prog 26 = some (false, 1) := by kernel_rfl
theorem tk_36 : tyK Tryd.prog 36 = some (false, 1) := by kernel_rfl
theorem tk_38 : tyK Tryd.prog 38 = some (true, 4) := by kernel_rfl
theorem zero_38 : zeroOf Tryd.prog 38 = some [.int .i64 0, .int .i64 0, .int .i64 0, .int .i64 0] := by kernel_rfl

theorem rdF_len : ∀ f n, (rdF f n).length ≤ f
  | 0, n => Nat.le_refl _
  | f + 1, n => by
    rw [rdF]; split
    · simp
    · have := rdF_len f (n / 10); simp; exact this
theorem txt_len (n : Int) : (txt n).length ≤ 11 := by
  unfold txt rd; have := rdF_len 10 (clamp n / 10); simp; exact this

theorem rtext (n : Int) : Ctr Tryd.prog B 10 [.int .i64 n] [] (fun v S => v = str (txt n) ∧ S = []) := by
  refine Ctr_of_X (N := 29) Tryd.func10 rfl (by simp) rfl ?_
  intro w0 D0
  refine X_seq ?_
  refine X_region ?_
  refine XL_det .no (D_pure rfl) rfl ?_
  refine XL_then ?_
  refine X_seqj (α := Int) (fun n1 => n1 = max n 0) (fun n1 => [(0, .int .i64 n1)]) (fun n1 => []) ?_ ?_
  · skip
    refine X_seq ?_
    refine X_region ?_
    refine XL_det .no (D_pure rfl) rfl ?_
    refine XL_det .no (D_pure rfl) rfl ?_
    refine XL_then ?_
    refine X_cond rfl (fun h1 => ?_) (fun h1 => ?_)
    · try simp only [decide_eq_true_eq, decide_eq_false_iff_not, Bool.not_eq_true', Bool.not_eq_false', beq_iff_eq, bne_iff_ne, beq_eq_false_iff_ne, bne_eq_false_iff_eq, Int.not_lt, Int.not_le, gt_iff_lt, ge_iff_le, ne_eq] at h1
      refine X_region ?_
      refine XL_det .no (D_pure rfl) rfl ?_
      refine XL_nil ?_
      refine joinQ_normal 0 ?_ ?_ ?_
      · omega
      · refine ⟨?_, trivial⟩ <;> rfl
      · exact ⟨_, (by repeat first | with_reducible exact .nil _ | with_reducible exact .here _ _ | with_reducible exact Take.self _ | with_reducible apply Take.cons | with_reducible apply Out.there | with_reducible apply Take.skip | with_reducible exact Take.pre _ _ | with_reducible apply Out.app)⟩
    · try simp only [decide_eq_true_eq, decide_eq_false_iff_not, Bool.not_eq_true', Bool.not_eq_false', beq_iff_eq, bne_iff_ne, beq_eq_false_iff_ne, bne_eq_false_iff_eq, Int.not_lt, Int.not_le, gt_iff_lt, ge_iff_le, ne_eq] at h1
      refine X_skip ?_
      refine joinQ_normal n ?_ ?_ ?_
      · omega
      · refine ⟨?_, trivial⟩ <;> rfl
      · exact ⟨_, (by repeat first | with_reducible exact .nil _ | with_reducible exact .here _ _ | with_reducible exact Take.self _ | with_reducible apply Take.cons | with_reducible apply Out.there | with_reducible apply Take.skip | with_reducible exact Take.pre _ _ | with_reducible apply Out.app)⟩
  · intro n1 hn1
    refine X_seqj (α := Int) (fun n2 => n2 = (clamp n : Int)) (fun n2 => [(0, .int .i64 n2)]) (fun n2 => []) ?_ ?_
    · skip
      refine X_seq ?_
      refine X_region ?_
      refine XL_det .no (D_pure rfl) rfl ?_
      refine XL_det .no (D_pure rfl) rfl ?_
      refine XL_then ?_
      refine X_cond rfl (fun h2 => ?_) (fun h2 => ?_)
      · try simp only [decide_eq_true_eq, decide_eq_false_iff_not, Bool.not_eq_true', Bool.not_eq_false', beq_iff_eq, bne_iff_ne, beq_eq_false_iff_ne, bne_eq_false_iff_eq, Int.not_lt, Int.not_le, gt_iff_lt, ge_iff_le, ne_eq] at h2
        refine X_region ?_
        refine XL_det .no (D_pure rfl) rfl ?_
        refine XL_nil ?_
        refine joinQ_normal 2147483647 ?_ ?_ ?_
        · unfold clamp; omega
        · refine ⟨?_, trivial⟩ <;> rfl
        · exact ⟨_, (by repeat first | with_reducible exact .nil _ | with_reducible exact .here _ _ | with_reducible exact Take.self _ | with_reducible apply Take.cons | with_reducible apply Out.there | with_reducible apply Take.skip | with_reducible exact Take.pre _ _ | with_reducible apply Out.app)⟩
      · try simp only [decide_eq_true_eq, decide_eq_false_iff_not, Bool.not_eq_true', Bool.not_eq_false', beq_iff_eq, bne_iff_ne, beq_eq_false_iff_ne, bne_eq_false_iff_eq, Int.not_lt, Int.not_le, gt_iff_lt, ge_iff_le, ne_eq] at h2
        refine X_skip ?_
        refine joinQ_normal n1 ?_ ?_ ?_
        · unfold clamp; omega
        · refine ⟨?_, trivial⟩ <;> rfl
        · exact ⟨_, (by repeat first | with_reducible exact .nil _ | with_reducible exact .here _ _ | with_reducible exact Take.self _ | with_reducible apply Take.cons | with_reducible apply Out.there | with_reducible apply Take.skip | with_reducible exact Take.pre _ _ | with_reducible apply Out.app)⟩
    · rintro n2 rfl
      refine X_seq ?_
      refine X_region ?_
      refine XL_det .no (D_pure rfl) rfl ?_
      refine XL_det .no (D_divmod (z := (((clamp n) % 10 : Nat) : Int)) rfl rfl (by decide) (tmod10 (clamp n))) rfl ?_
      refine XL_det .no (D_add (m := 48) (n := (((clamp n) % 10 : Nat) : Int)) rfl rfl (by omega) (by omega)) rfl ?_
      refine XL_det .no (D_cvt (z := ((dg (clamp n)).toNat : Int)) rfl cvt_3_5 (dg_wrap (clamp n))) rfl ?_
      refine XL_bslice (cs := encB (dg (clamp n))) .no rfl slt_29 (by decide) (by decide) (by rfl) (by rfl) rfl rfl (fun b1 => ?_)
      refine XL_det .no (D_bstr (a := Arr.lit b1 [dg (clamp n)] (by simp)) (l := [dg (clamp n)]) rfl (by repeat first | with_reducible exact .here _ _ | with_reducible apply Out.there | with_reducible apply Out.app) (Rd_obj (cs := encB (dg (clamp n)))) rfl bstr_29_9) rfl ?_
      refine XL_det .no (D_pure rfl) rfl ?_
      refine XL_then ?_
      refine X_seq ?_
      refine X_seq ?_
      refine X_region ?_
      refine XL_det .no (D_pure rfl) rfl ?_
      refine XL_det .no (D_divmod (z := (((clamp n) / 10 : Nat) : Int)) rfl rfl (by decide) (by show IntKind.i64.wrap _ = _; rw [tdiv10]; have := clamp_le n; exact i64_in' (by omega) (by omega))) rfl ?_
      refine XL_det .no (D_pure rfl) rfl ?_
      refine XL_then ?_
      refine X_block ?_
      refine X_loop (α := Nat × Nat × List UInt8) (fun ⟨m, f, acc⟩ => m ≤ 2147483647 ∧ m < 10 ^ f ∧ (rdF f m).reverse ++ acc = (rd (clamp n)).reverse ∧ acc.length + f ≤ 11) (fun ⟨m, f, acc⟩ => [(0, .int .i64 (m : Int)), (3, str acc)]) (fun ⟨m, f, acc⟩ => []) (fun ⟨m, f, acc⟩ => m) ((clamp n) / 10, 10, [dg (clamp n)]) ?_ (by refine ⟨?_, ?_, trivial⟩ <;> rfl) (by repeat first | with_reducible exact .nil _ | with_reducible exact .here _ _ | with_reducible exact Take.self _ | with_reducible apply Take.cons | with_reducible apply Out.there | with_reducible apply Take.skip | with_reducible exact Take.pre _ _ | with_reducible apply Out.app) ?_
      · have hcn := clamp_le n; exact ⟨by show clamp n / 10 ≤ _; omega, by show clamp n / 10 < 10 ^ 10; omega, by show _ = List.reverse (dg _ :: _); rw [List.reverse_cons], by show 1 + 10 ≤ 11; decide⟩
      · rintro ⟨m, f, acc⟩ ⟨hmm, hm, hc, hcl⟩
        dsimp only
        refine X_seq ?_
        refine X_seq ?_
        refine X_region ?_
        refine XL_det .no (D_pure rfl) rfl ?_
        refine XL_det .no (D_pure rfl) rfl ?_
        refine XL_then ?_
        refine X_cond rfl (fun h3 => ?_) (fun h3 => ?_)
        · try simp only [decide_eq_true_eq, decide_eq_false_iff_not, Bool.not_eq_true', Bool.not_eq_false', beq_iff_eq, bne_iff_ne, beq_eq_false_iff_ne, bne_eq_false_iff_eq, Int.not_lt, Int.not_le, gt_iff_lt, ge_iff_le, ne_eq] at h3
          obtain ⟨f2, rfl, hf1, hf2⟩ := rdF_s (by omega) hm
          refine X_skip ?_
          refine thenX_normal ?_
          refine X_seq ?_
          refine X_block ?_
          refine X_region ?_
          refine XL_det .no (D_pure rfl) rfl ?_
          refine XL_det .no (D_divmod (z := ((m % 10 : Nat) : Int)) rfl rfl (by decide) (tmod10 m)) rfl ?_
          refine XL_det .no (D_add (m := 48) (n := ((m % 10 : Nat) : Int)) rfl rfl (by omega) (by omega)) rfl ?_
          refine XL_det .no (D_cvt (z := ((dg m).toNat : Int)) rfl cvt_3_5 (dg_wrap m)) rfl ?_
          refine XL_bslice (cs := encB (dg m)) .no rfl slt_29 (by decide) (by decide) (by rfl) (by rfl) rfl rfl (fun b2 => ?_)
          refine XL_det .no (D_bstr (a := Arr.lit b2 [dg m] (by simp)) (l := [dg m]) rfl (by repeat first | with_reducible exact .here _ _ | with_reducible apply Out.there | with_reducible apply Out.app) (Rd_obj (cs := encB (dg m))) rfl bstr_29_9) rfl ?_
          refine XL_det .no (D_pure rfl) rfl ?_
          refine XL_det .no (D_scat rfl rfl (by simp; omega)) rfl ?_
          refine XL_det .no (D_pure rfl) rfl ?_
          refine XL_nil ?_
          refine inBlk_normal ?_
          refine thenX_normal ?_
          refine X_region ?_
          refine XL_det .no (D_pure rfl) rfl ?_
          refine XL_det .no (D_divmod (z := ((m / 10 : Nat) : Int)) rfl rfl (by decide) (by show IntKind.i64.wrap _ = _; rw [tdiv10]; have := clamp_le n; exact i64_in' (by omega) (by omega))) rfl ?_
          refine XL_det .no (D_pure rfl) rfl ?_
          refine XL_nil ?_
          refine loopQ_next (m / 10, f2, [dg m] ++ acc) ?_ ?_ ?_ ?_
          · (try dsimp only); exact ⟨by omega, hf2, by rw [← hc, hf1, List.reverse_cons, List.append_assoc], by simp; omega⟩
          · (try dsimp only); omega
          · refine ⟨?_, ?_, trivial⟩ <;> rfl
          · (try dsimp only); exact ⟨_, (by repeat first | with_reducible exact .nil _ | with_reducible exact .here _ _ | with_reducible exact Take.self _ | with_reducible apply Take.cons | with_reducible apply Out.there | with_reducible apply Take.skip | with_reducible exact Take.pre _ _ | with_reducible apply Out.app)⟩
        · try simp only [decide_eq_true_eq, decide_eq_false_iff_not, Bool.not_eq_true', Bool.not_eq_false', beq_iff_eq, bne_iff_ne, beq_eq_false_iff_ne, bne_eq_false_iff_eq, Int.not_lt, Int.not_le, gt_iff_lt, ge_iff_le, ne_eq] at h3
          obtain rfl : m = 0 := by omega
          rw [rdF_0, List.reverse_nil, List.nil_append] at hc
          refine X_exit ?_
          refine thenX_exit ?_
          refine loopQ_exit ?_
          refine inBlk_here ?_
          refine thenX_normal ?_
          refine X_seq ?_
          refine X_region ?_
          refine XL_det .no (D_pure rfl) rfl ?_
          refine XL_det .no (D_pure rfl) rfl ?_
          refine XL_then ?_
          refine X_ret ?_
          refine ret_ok (.nil _) (res_tmp rfl rfl) ?_
          exact ⟨_, ⟨by rw [hc]; rfl, rfl⟩, _, (by repeat first | with_reducible exact .nil _ | with_reducible exact .here _ _ | with_reducible exact Take.self _ | with_reducible apply Take.cons | with_reducible apply Out.there | with_reducible apply Take.skip | with_reducible exact Take.pre _ _ | with_reducible apply Out.app)⟩


structure Ev where
  tick : Int
  kind : Int
  a : Int
  b : Int
abbrev encE (e : Ev) : List Value := [.int .i64 e.tick, .int .i64 e.kind, .int .i64 e.a, .int .i64 e.b]
abbrev zE : Ev := ⟨0, 0, 0, 0⟩
def evF (i : Nat) (k : Int) : Option Ev → List (Nat × Ev)
  | some e => if e.kind = k then [(i, e)] else []
  | none => []
/-- The events of a kind, numbered. -/
def evL (l : List Ev) (k : Int) : Nat → List (Nat × Ev)
  | 0 => []
  | n + 1 => evL l k n ++ evF n k l[n]?
theorem evL_t {l : List Ev} {k : Int} {i : Nat} {q : Ev} (h : l[i]? = some q) (hq : q.kind = k) : evL l k (i + 1) = evL l k i ++ [(i, q)] := by rw [evL, h, evF, if_pos hq]
theorem evL_f {l : List Ev} {k : Int} {i : Nat} {q : Ev} (h : l[i]? = some q) (hq : ¬ q.kind = k) : evL l k (i + 1) = evL l k i := by rw [evL, h, evF, if_neg hq, List.append_nil]
theorem evL_le (l : List Ev) (k : Int) (n : Nat) : ∀ m, n ≤ m → ∃ r, evL l k m = evL l k n ++ r
  | 0, h => by have : n = 0 := by omega
               subst this; exact ⟨[], rfl⟩
  | m + 1, h => by
    rcases Nat.lt_or_ge n (m + 1) with h' | h'
    · obtain ⟨r, hr⟩ := evL_le l k n m (by omega)
      exact ⟨r ++ evF m k l[m]?, by rw [evL, hr, List.append_assoc]⟩
    · have : n = m + 1 := by omega
      subst this; exact ⟨[], by simp⟩
theorem evL_len (l : List Ev) (k : Int) : ∀ n, (evL l k n).length ≤ n
  | 0 => Nat.le_refl _
  | n + 1 => by
    have := evL_len l k n
    rw [evL, List.length_append]
    have : (evF n k l[n]?).length ≤ 1 := by
      cases l[n]? with
      | none => exact Nat.zero_le _
      | some s => show (if s.kind = k then [(n, s)] else []).length ≤ 1; split <;> simp
    omega
theorem evL_get {l : List Ev} {k : Int} {i : Nat} {q : Ev} (hi : i < l.length) (h : l[i]? = some q) (hq : q.kind = k) : (evL l k i).length < (evL l k l.length).length ∧ (evL l k l.length)[(evL l k i).length]? = some (i, q) := by
  obtain ⟨r, hr⟩ := evL_le l k (i + 1) l.length (by omega)
  rw [hr, evL_t h hq]
  refine ⟨by simp, ?_⟩
  rw [List.append_assoc, List.getElem?_append_right (Nat.le_refl _)]; simp
abbrev eV (p : Nat × Ev) : List Value := [.int .i64 (p.1 : Int), .agg (encE p.2).toArray]
theorem evV_get {l : List (Nat × Ev)} {i : Nat} {p : Nat × Ev} (h : l[i]? = some p) : (l.map eV).getD i [] = eV p := by simp [List.getD, h]

theorem trOf (k : Int) (l : Arr Ev) : Ctr Tryd.prog B 20 [.int .i64 k, .slice l.oad l.l.length l.c] [] (fun v S => ∃ bl bk, v = .func (.func 24) #[] #[.pointer (some ⟨bl, 0, none⟩), .pointer (some ⟨bk, 0, none⟩)] ∧ S = [blk bl [.slice l.oad l.l.length l.c] 26, blk bk [.int .i64 k] 36]) := by
  refine Ctr_of_X (N := 6) Tryd.func20 rfl (by simp) rfl ?_
  intro w0 D0
  refine X_seq ?_
  refine X_region ?_
  refine XL_box .no rfl rfl rfl (fun b1 => ?_)
  refine XL_box .no rfl rfl rfl (fun b2 => ?_)
  refine XL_det .no (D_pure rfl) rfl ?_
  refine XL_then ?_
  refine X_seq ?_
  refine X_region ?_
  refine XL_det .no (D_pure rfl) rfl ?_
  refine XL_det .no (D_pure rfl) rfl ?_
  refine XL_then ?_
  refine X_ret ?_
  refine ret_ok (.nil _) (res_tmp rfl rfl) ?_
  exact ⟨[blk b2 [.slice l.oad l.l.length l.c] 26, blk b1 [.int .i64 k] 36], ⟨b2, b1, rfl, rfl⟩, _, (by repeat first | with_reducible exact .nil _ | with_reducible exact .here _ _ | with_reducible exact Take.self _ | with_reducible apply Take.cons | with_reducible apply Out.there | with_reducible apply Take.skip | with_reducible exact Take.pre _ _ | with_reducible apply Out.app)⟩

theorem trItr (bl bk : Nat) (k : Int) (l : Arr Ev) (hl : Rd K l.ad (l.l.flatMap encE)) :
    Itr Tryd.prog B 24 [.pointer (some ⟨bl, 0, none⟩), .pointer (some ⟨bk, 0, none⟩)] [blk bl [.slice l.oad l.l.length l.c] 26, blk bk [.int .i64 k] 36, K] ((evL l.l k l.l.length).map eV) := by
  intro ly J Jx S0 hJ0 hy
  change Ctr _ _ _ _ (blk bl [.slice l.oad l.l.length l.c] 26 :: blk bk [.int .i64 k] 36 :: K :: S0) _
  refine Ctr_of_X (N := 25) Tryd.func24 rfl (by simp) rfl ?_
  intro w0 D0
  refine X_seq ?_
  refine X_region ?_
  refine XL_det .no (D_ldo rfl (by repeat first | with_reducible exact .here _ _ | with_reducible apply Out.there | with_reducible apply Out.app) tk_26 (by rfl)) rfl ?_
  refine XL_det .no (D_len rfl rfl slc_26) rfl ?_
  refine XL_det .no (D_pure rfl) rfl ?_
  refine XL_then ?_
  refine X_block ?_
  refine X_loop (α := Nat × List (Asrt B)) (fun ⟨i, S1⟩ => i ≤ l.l.length ∧ J (evL l.l k i).length S1) (fun ⟨i, S1⟩ => [(8, .int .i64 (i : Int)), (0, .func (.yield ly) #[] #[]), (1, .pointer (some ⟨bl, 0, none⟩)), (2, .pointer (some ⟨bk, 0, none⟩)), (6, .slice l.oad l.l.length l.c), (7, .int .i64 (l.l.length : Int))]) (fun ⟨i, S1⟩ => blk bl [.slice l.oad l.l.length l.c] 26 :: blk bk [.int .i64 k] 36 :: K :: S1) (fun ⟨i, S1⟩ => l.l.length - i) (0, S0) ?_ (by refine ⟨?_, ?_, ?_, ?_, ?_, ?_, trivial⟩ <;> rfl) (by repeat first | with_reducible exact .nil _ | with_reducible exact .here _ _ | with_reducible exact Take.self _ | with_reducible apply Take.cons | with_reducible apply Out.there | with_reducible apply Take.skip | with_reducible exact Take.pre _ _ | with_reducible apply Out.app) ?_
  · exact ⟨Nat.zero_le _, hJ0⟩
  · rintro ⟨i, S1⟩ ⟨hi, hJ⟩
    dsimp only
    have hsm := l.small
    refine X_seq ?_
    refine X_region ?_
    refine XL_det .no (D_pure rfl) rfl ?_
    refine XL_then ?_
    refine X_seq ?_
    refine X_cond rfl (fun h1 => ?_) (fun h1 => ?_)
    · try simp only [decide_eq_true_eq, decide_eq_false_iff_not, Bool.not_eq_true', Bool.not_eq_false', beq_iff_eq, bne_iff_ne, beq_eq_false_iff_ne, bne_eq_false_iff_eq, Int.not_lt, Int.not_le, gt_iff_lt, ge_iff_le, ne_eq] at h1
      obtain ⟨q, hg⟩ : ∃ q, l.l[i]? = some q := ⟨_, List.getElem?_eq_getElem (by omega)⟩
      refine X_skip ?_
      refine thenX_normal ?_
      refine X_seq ?_
      refine X_block ?_
      refine X_seq ?_
      refine X_region ?_
      refine XL_det .no (D_pure rfl) rfl ?_
      refine XL_det .no (D_idxSo rfl rfl slc_26 (l).nil0 rfl (by omega) rfl) rfl ?_
      refine XL_det .no (D_els (enc := encE) (sz := 4) (i := i) (fun _ => rfl) rfl (by repeat first | with_reducible exact .here _ _ | with_reducible apply Out.there | with_reducible apply Out.app) hl tk_38 hg) rfl ?_
      refine XL_alloc (cs := encE zE) .no zero_38 rfl (fun b1 => ?_)
      refine XL_det .no (D_pure rfl) rfl ?_
      refine XL_efd .no (F_stw (vs := encE q) rfl rfl (by rfl) (by repeat first | with_reducible exact .here _ _ | with_reducible apply Out.there | with_reducible apply Out.app) tk_38 rfl rfl) ?_
      refine XL_then ?_
      refine X_seq ?_
      refine X_region ?_
      refine XL_det .no (D_fld rfl fld_38_1 (o' := 1) rfl) rfl ?_
      refine XL_det .no (D_ldo rfl (by repeat first | with_reducible exact .here _ _ | with_reducible apply Out.there | with_reducible apply Out.app) tk_36 (by rfl)) rfl ?_
      refine XL_det .no (D_ldo rfl (by repeat first | with_reducible exact .here _ _ | with_reducible apply Out.there | with_reducible apply Out.app) tk_36 (by rfl)) rfl ?_
      refine XL_det .no (D_pure rfl) rfl ?_
      refine XL_det .no (D_pure rfl) rfl ?_
      refine XL_split (t := 17) rfl (fun h2 => ?_) (fun h2 => ?_)
      · try simp only [decide_eq_true_eq, decide_eq_false_iff_not, Bool.not_eq_true', Bool.not_eq_false', beq_iff_eq, bne_iff_ne, beq_eq_false_iff_ne, bne_eq_false_iff_eq, Int.not_lt, Int.not_le, gt_iff_lt, ge_iff_le, ne_eq] at h2
        obtain ⟨hlt, hget⟩ := evL_get (by omega) hg h2
        have hyy := hy _ S1 (by rw [List.length_map]; exact hlt) hJ
        rw [evV_get hget] at hyy
        refine XL_det (.yes 17 rfl rfl rfl) (D_pure rfl) rfl ?_
        refine XL_det (.yes 17 rfl rfl rfl) (D_pure rfl) rfl ?_
        refine XL_det (.yes 17 rfl rfl rfl) (D_ldso (vs := encE q) rfl (by repeat first | with_reducible exact .here _ _ | with_reducible apply Out.there | with_reducible apply Out.app) tk_38 rfl (by rfl)) rfl ?_
        refine XL_yield (own := [blk b1 (encE q) 38, blk bl [.slice l.oad l.l.length l.c] 26, blk bk [.int .i64 k] 36, K]) (Si := S1) (.yes 17 rfl rfl rfl) rfl rfl hyy rfl ?_
        rintro bb S2 hp
        simp only [List.cons_append, List.nil_append]
        refine XL_det (.yes 17 rfl rfl rfl) (D_pure rfl) rfl ?_
        refine XL_det .no (D_pure rfl) rfl ?_
        refine XL_then ?_
        refine X_cond rfl (fun h3 => ?_) (fun h3 => ?_)
        · try simp only [decide_eq_true_eq, decide_eq_false_iff_not, Bool.not_eq_true', Bool.not_eq_false', beq_iff_eq, bne_iff_ne, beq_eq_false_iff_ne, bne_eq_false_iff_eq, Int.not_lt, Int.not_le, gt_iff_lt, ge_iff_le, ne_eq] at h3
          refine X_ret ?_
          refine inBlk_ret ?_
          refine thenX_ret ?_
          refine loopQ_ret ?_
          refine inBlk_ret ?_
          refine ret_ok (.nil _) (res_none rfl) ?_
          obtain ⟨h, _⟩ | ⟨_, hp⟩ := hp
          · rw [h] at h3; cases h3
          exact ⟨blk bl [.slice l.oad l.l.length l.c] 26 :: blk bk [.int .i64 k] 36 :: K :: S2, ⟨S2, rfl, .inr ⟨_, by rw [List.length_map]; exact hlt, hp⟩⟩, _, (by repeat first | with_reducible exact .nil _ | with_reducible exact .here _ _ | with_reducible exact Take.self _ | with_reducible apply Take.cons | with_reducible apply Out.there | with_reducible apply Take.skip | with_reducible exact Take.pre _ _ | with_reducible apply Out.app)⟩
        · try simp only [decide_eq_true_eq, decide_eq_false_iff_not, Bool.not_eq_true', Bool.not_eq_false', beq_iff_eq, bne_iff_ne, beq_eq_false_iff_ne, bne_eq_false_iff_eq, Int.not_lt, Int.not_le, gt_iff_lt, ge_iff_le, ne_eq] at h3
          obtain ⟨_, hp⟩ | ⟨h, _⟩ := hp
          rotate_left
          · rw [h] at h3; cases h3
          refine X_skip ?_
          refine inBlk_normal ?_
          refine thenX_normal ?_
          refine X_region ?_
          refine XL_det .no (D_add rfl rfl (by omega) (by omega)) rfl ?_
          refine XL_det .no (D_pure rfl) rfl ?_
          refine XL_nil ?_
          refine loopQ_next (i + 1, S2) ?_ ?_ ?_ ?_
          · (try dsimp only); exact ⟨by omega, by rw [evL_t hg h2, List.length_append]; exact hp⟩
          · (try dsimp only); omega
          · refine ⟨?_, ?_, ?_, ?_, ?_, ?_, trivial⟩ <;> rfl
          · (try dsimp only); exact ⟨_, (by repeat first | with_reducible exact .nil _ | with_reducible exact .here _ _ | with_reducible exact Take.self _ | with_reducible apply Take.cons | with_reducible apply Out.there | with_reducible apply Take.skip | with_reducible exact Take.pre _ _ | with_reducible apply Out.app)⟩
      · try simp only [decide_eq_true_eq, decide_eq_false_iff_not, Bool.not_eq_true', Bool.not_eq_false', beq_iff_eq, bne_iff_ne, beq_eq_false_iff_ne, bne_eq_false_iff_eq, Int.not_lt, Int.not_le, gt_iff_lt, ge_iff_le, ne_eq] at h2
        refine XL_skip 17 rfl rfl rfl rfl rfl ?_
        refine XL_skip 17 rfl rfl rfl rfl rfl ?_
        refine XL_skip 17 rfl rfl rfl rfl rfl ?_
        refine XL_skip 17 rfl rfl rfl rfl rfl ?_
        refine XL_skip 17 rfl rfl rfl rfl rfl ?_
        refine XL_det .no (D_pure rfl) rfl ?_
        refine XL_then ?_
        refine X_cond_f rfl rfl ?_
        refine X_skip ?_
        refine inBlk_normal ?_
        refine thenX_normal ?_
        refine X_region ?_
        refine XL_det .no (D_add rfl rfl (by omega) (by omega)) rfl ?_
        refine XL_det .no (D_pure rfl) rfl ?_
        refine XL_nil ?_
        refine loopQ_next (i + 1, S1) ?_ ?_ ?_ ?_
        · (try dsimp only); exact ⟨by omega, by rw [evL_f hg h2]; exact hJ⟩
        · (try dsimp only); omega
        · refine ⟨?_, ?_, ?_, ?_, ?_, ?_, trivial⟩ <;> rfl
        · (try dsimp only); exact ⟨_, (by repeat first | with_reducible exact .nil _ | with_reducible exact .here _ _ | with_reducible exact Take.self _ | with_reducible apply Take.cons | with_reducible apply Out.there | with_reducible apply Take.skip | with_reducible exact Take.pre _ _ | with_reducible apply Out.app)⟩
    · try simp only [decide_eq_true_eq, decide_eq_false_iff_not, Bool.not_eq_true', Bool.not_eq_false', beq_iff_eq, bne_iff_ne, beq_eq_false_iff_ne, bne_eq_false_iff_eq, Int.not_lt, Int.not_le, gt_iff_lt, ge_iff_le, ne_eq] at h1
      refine X_exit ?_
      refine thenX_exit ?_
      refine loopQ_exit ?_
      refine inBlk_here ?_
      refine ret_okn (.nil _) (res_none rfl) ?_
      obtain rfl : i = l.l.length := by omega
      exact ⟨blk bl [.slice l.oad l.l.length l.c] 26 :: blk bk [.int .i64 k] 36 :: K :: S1, ⟨S1, rfl, .inl (by rw [List.length_map]; exact hJ)⟩, _, (by repeat first | with_reducible exact .nil _ | with_reducible exact .here _ _ | with_reducible exact Take.self _ | with_reducible apply Take.cons | with_reducible apply Out.there | with_reducible apply Take.skip | with_reducible exact Take.pre _ _ | with_reducible apply Out.app)⟩

end Go.Proofs.YtjcpggoodbkedaaDoor
end

section
namespace Go.Proofs.YtjcpggoodbkedaaDoor
open Go Go.Sl
set_option linter.unusedVariables false
set_option linter.unusedSimpArgs false
set_option maxRecDepth 4000
variable {B : Nat} {K : Asrt B}
theorem fld_25_0 : fldOff Tryd.prog 25 0 = some 0 := by kernel_rfl
theorem fld_25_1 : fldOff Tryd.prog 25 1 = some 1 := by kernel_rfl
theorem fld_38_0 : fldOff Tryd.prog 38 0 = some 0 := by kernel_rfl
theorem fld_38_2 : fldOff Tryd.prog 38 2 = some 2 := by kernel_rfl
theorem tk_3 : tyK Tryd.prog 3 = some (false, 1) := by kernel_rfl

theorem txt10 {n : Nat} (h : n < 10) : (txt (n : Int)).length = 1 := by
  have : ∀ k : Fin 10, (txt ((k : Nat) : Int)).length = 1 := by decide
  exact this ⟨n, h⟩
theorem txt16 {n : Nat} (h : 10 ≤ n) (h2 : n < 16) : (txt (n : Int)).length = 2 := by
  have : ∀ k : Fin 16, 10 ≤ (k : Nat) → (txt ((k : Nat) : Int)).length = 2 := by decide
  exact this ⟨n, h2⟩ h
/-- How many ticks a time has. -/
def wid (f t : Int) : Nat := (min (t - f) 256).toNat
theorem wid_le (f t : Int) : wid f t ≤ 256 := by unfold wid; omega
structure okC (f t : Int) (l : List Ev) : Prop where
  len : l.length ≤ 500
  f0 : 0 ≤ f ∧ f ≤ 1073741824
  t0 : 0 ≤ t ∧ t ≤ 1073741824
  ev : ∀ e ∈ l, 0 ≤ e.tick ∧ e.tick ≤ 1073741824
open Classical in
noncomputable def okB (f t : Int) (l : List Ev) : Bool := decide (okC f t l)
open Classical in
theorem okB_t {f t : Int} {l : List Ev} (h : okC f t l) : okB f t l = true := decide_eq_true h
open Classical in
theorem okB_f {f t : Int} {l : List Ev} (h : ¬ okC f t l) : okB f t l = false := decide_eq_false h
open Classical in
theorem okB_of {f t : Int} {l : List Ev} (h : okB f t l = true) : okC f t l := of_decide_eq_true h
theorem take_allE {s : List Ev} {i : Nat} {b : Ev} {p : Ev → Prop} (h : s[i]? = some b) (ha : ∀ c ∈ s.take i, p c) (hb : p b) : ∀ c ∈ s.take (i + 1), p c := by
  rw [List.take_add_one, h]
  intro c hc
  rcases List.mem_append.1 hc with hc | hc
  · exact ha c hc
  · have : c = b := by simpa using hc
    subst this; exact hb
/-! ### Is a job there -/
/-- Behind a job's coming: to when it is there; has another one come? -/
def scan (k : Int) : List Ev → Int × Bool
  | [] => (2147483648, false)
  | e :: r => if e.a = k ∧ e.kind = 3 then (e.tick, false) else if e.a = k ∧ e.kind = 2 then (2147483648, true) else scan k r
def within (a t b : Int) : Bool := decide (a ≤ t) && decide (t < b)
def thereL (k t : Int) : List Ev → Bool
  | [] => false
  | e :: r => (decide (e.a = k ∧ e.kind = 2) && !(scan k r).2 && within e.tick t (scan k r).1) || thereL k t r
def from? (t : Int) : Option Int → Bool
  | none => false
  | some f => within f t 2147483648
def cov (k t : Int) : Option Int → List Ev → Bool
  | o, [] => from? t o
  | o, e :: r => if e.a = k then (if e.kind = 2 then cov k t (some e.tick) r else if e.kind = 3 then ((match o with | some f => within f t e.tick | none => false) || cov k t none r) else cov k t o r) else cov k t o r
theorem cov_some (k t f : Int) : ∀ l, cov k t (some f) l = ((!(scan k l).2 && within f t (scan k l).1) || cov k t none l)
  | [] => by simp [cov, scan, from?]
  | e :: r => by
    by_cases ha : e.a = k
    · by_cases h2 : e.kind = 2
      · simp [cov, scan, ha, h2]
      · by_cases h3 : e.kind = 3
        · simp [cov, scan, ha, h3]
        · simp [cov, scan, ha, h2, h3, cov_some k t f r]
    · simp [cov, scan, ha, cov_some k t f r]
theorem there_cov (k t : Int) : ∀ l, thereL k t l = cov k t none l
  | [] => rfl
  | e :: r => by
    by_cases ha : e.a = k
    · by_cases h2 : e.kind = 2
      · simp [cov, thereL, ha, h2, cov_some, there_cov k t r]
      · by_cases h3 : e.kind = 3
        · simp [cov, thereL, ha, h3, there_cov k t r]
        · simp [cov, thereL, ha, h2, h3, there_cov k t r]
    · simp [cov, thereL, ha, there_cov k t r]
theorem there_drop {k t : Int} {l : List Ev} {i : Nat} {e : Ev} (h : l[i]? = some e) : thereL k t (l.drop i) = ((decide (e.a = k ∧ e.kind = 2) && !(scan k (l.drop (i + 1))).2 && within e.tick t (scan k (l.drop (i + 1))).1) || thereL k t (l.drop (i + 1))) := by
  obtain ⟨h1, h2⟩ := List.getElem?_eq_some_iff.1 h
  rw [List.drop_eq_getElem_cons h1, h2]; rfl
theorem scan_drop {k : Int} {l : List Ev} {i : Nat} {e : Ev} (h : l[i]? = some e) : scan k (l.drop i) = if e.a = k ∧ e.kind = 3 then (e.tick, false) else if e.a = k ∧ e.kind = 2 then (2147483648, true) else scan k (l.drop (i + 1)) := by
  obtain ⟨h1, h2⟩ := List.getElem?_eq_some_iff.1 h
  rw [List.drop_eq_getElem_cons h1, h2]; rfl
theorem cov_drop {k t : Int} {o : Option Int} {l : List Ev} {i : Nat} {e : Ev} (h : l[i]? = some e) : cov k t o (l.drop i) = if e.a = k then (if e.kind = 2 then cov k t (some e.tick) (l.drop (i + 1)) else if e.kind = 3 then ((match o with | some f => within f t e.tick | none => false) || cov k t none (l.drop (i + 1))) else cov k t o (l.drop (i + 1))) else cov k t o (l.drop (i + 1)) := by
  obtain ⟨h1, h2⟩ := List.getElem?_eq_some_iff.1 h
  rw [List.drop_eq_getElem_cons h1, h2]; rfl
def runsL (k t : Int) (l : List Ev) : Bool := l.any fun e => decide (e.a = k ∧ e.kind = 1 ∧ e.tick = t)
theorem runs_t {k t : Int} {l : List Ev} {i : Nat} {e : Ev} (h : l[i]? = some e) (hc : e.a = k ∧ e.kind = 1 ∧ e.tick = t) : runsL k t l = true := by
  unfold runsL; rw [List.any_eq_true]; exact ⟨e, List.mem_of_getElem? h, decide_eq_true hc⟩
theorem runs_s {k t : Int} {l : List Ev} {i : Nat} {e : Ev} (h : l[i]? = some e) (hn : runsL k t (l.take i) = false) (hc : ¬ (e.a = k ∧ e.kind = 1 ∧ e.tick = t)) : runsL k t (l.take (i + 1)) = false := by
  unfold runsL at *
  rw [List.take_add_one, h, List.any_append, hn]
  simp; exact fun a b c => hc ⟨a, b, c⟩
/-- A row's sign. -/
def signB (k t : Int) (l : List Ev) : UInt8 := if runsL k t l then 35 else if thereL k t l then 46 else 32
def rowS (k f t : Int) (l : List Ev) : List UInt8 := (List.range (wid f t)).map fun (j : Nat) => signB k (f + (j : Int)) l
theorem rowS_len (k f t : Int) (l : List Ev) : (rowS k f t l).length ≤ 256 := by unfold rowS; simp; exact wid_le f t

theorem cwide (f t : Int) (h : 0 ≤ f ∧ f ≤ 1073741824) (h2 : 0 ≤ t ∧ t ≤ 1073741824) : Ctr Tryd.prog B 19 [.agg #[.int .i64 f, .int .i64 t]] [] (fun v S => v = .int .i64 (wid f t : Int) ∧ S = []) := by
  refine Ctr_of_X (N := 14) Tryd.func19 rfl (by simp) rfl ?_
  intro w0 D0
  refine X_seq ?_
  refine X_region ?_
  refine XL_box (cs := [.int .i64 f, .int .i64 t]) .no rfl rfl rfl (fun b1 => ?_)
  refine XL_det .no (D_pure rfl) rfl ?_
  refine XL_then ?_
  refine X_seq ?_
  refine X_seq ?_
  refine X_region ?_
  refine XL_det .no (D_fld rfl fld_25_1 (o' := 1) rfl) rfl ?_
  refine XL_det .no (D_ldo rfl (by repeat first | with_reducible exact .here _ _ | with_reducible apply Out.there | with_reducible apply Out.app) tk_3 (by rfl)) rfl ?_
  refine XL_det .no (D_fld rfl fld_25_0 (o' := 0) rfl) rfl ?_
  refine XL_det .no (D_ldo rfl (by repeat first | with_reducible exact .here _ _ | with_reducible apply Out.there | with_reducible apply Out.app) tk_3 (by rfl)) rfl ?_
  refine XL_det .no (D_pure rfl) rfl ?_
  refine XL_then ?_
  refine X_cond rfl (fun h1 => ?_) (fun h1 => ?_)
  · try simp only [decide_eq_true_eq, decide_eq_false_iff_not, Bool.not_eq_true', Bool.not_eq_false', beq_iff_eq, bne_iff_ne, beq_eq_false_iff_ne, bne_eq_false_iff_eq, Int.not_lt, Int.not_le, gt_iff_lt, ge_iff_le, ne_eq] at h1
    refine X_seq ?_
    refine X_region ?_
    refine XL_det .no (D_pure rfl) rfl ?_
    refine XL_then ?_
    refine X_ret ?_
    refine thenX_ret ?_
    refine ret_ok (.nil _) (res_tmp rfl rfl) ?_
    exact ⟨_, ⟨by rw [show (wid f t : Int) = 0 by unfold wid; omega], rfl⟩, _, (by repeat first | with_reducible exact .nil _ | with_reducible exact .here _ _ | with_reducible exact Take.self _ | with_reducible apply Take.cons | with_reducible apply Out.there | with_reducible apply Take.skip | with_reducible exact Take.pre _ _ | with_reducible apply Out.app)⟩
  · try simp only [decide_eq_true_eq, decide_eq_false_iff_not, Bool.not_eq_true', Bool.not_eq_false', beq_iff_eq, bne_iff_ne, beq_eq_false_iff_ne, bne_eq_false_iff_eq, Int.not_lt, Int.not_le, gt_iff_lt, ge_iff_le, ne_eq] at h1
    refine X_skip ?_
    refine thenX_normal ?_
    refine X_seq ?_
    refine X_region ?_
    refine XL_det .no (D_fld rfl fld_25_1 (o' := 1) rfl) rfl ?_
    refine XL_det .no (D_ldo rfl (by repeat first | with_reducible exact .here _ _ | with_reducible apply Out.there | with_reducible apply Out.app) tk_3 (by rfl)) rfl ?_
    refine XL_det .no (D_fld rfl fld_25_0 (o' := 0) rfl) rfl ?_
    refine XL_det .no (D_ldo rfl (by repeat first | with_reducible exact .here _ _ | with_reducible apply Out.there | with_reducible apply Out.app) tk_3 (by rfl)) rfl ?_
    refine XL_det .no (D_sub rfl rfl (by omega) (by omega)) rfl ?_
    refine XL_det .no (D_min rfl rfl) rfl ?_
    refine XL_det .no (D_pure rfl) rfl ?_
    refine XL_then ?_
    refine X_ret ?_
    refine ret_ok (.nil _) (res_tmp rfl rfl) ?_
    exact ⟨_, ⟨by rw [show (wid f t : Int) = min (t - f) 256 by unfold wid; omega], rfl⟩, _, (by repeat first | with_reducible exact .nil _ | with_reducible exact .here _ _ | with_reducible exact Take.self _ | with_reducible apply Take.cons | with_reducible apply Out.there | with_reducible apply Take.skip | with_reducible exact Take.pre _ _ | with_reducible apply Out.app)⟩

theorem lwide (f t : Int) (h : 0 ≤ f ∧ f ≤ 1073741824) (h2 : 0 ≤ t ∧ t ≤ 1073741824) : Ctr Tryd.prog B 7 [.agg #[.int .i64 f, .int .i64 t]] [] (fun v S => v = .int .i64 (min (t - f) 256) ∧ S = []) := by
  refine Ctr_of_X (N := 12) Tryd.func7 rfl (by simp) rfl ?_
  intro w0 D0
  refine X_seq ?_
  refine X_region ?_
  refine XL_box (cs := [.int .i64 f, .int .i64 t]) .no rfl rfl rfl (fun b1 => ?_)
  refine XL_det .no (D_pure rfl) rfl ?_
  refine XL_then ?_
  refine X_seq ?_
  refine X_region ?_
  refine XL_det .no (D_fld rfl fld_25_1 (o' := 1) rfl) rfl ?_
  refine XL_det .no (D_ldo rfl (by repeat first | with_reducible exact .here _ _ | with_reducible apply Out.there | with_reducible apply Out.app) tk_3 (by rfl)) rfl ?_
  refine XL_det .no (D_fld rfl fld_25_0 (o' := 0) rfl) rfl ?_
  refine XL_det .no (D_ldo rfl (by repeat first | with_reducible exact .here _ _ | with_reducible apply Out.there | with_reducible apply Out.app) tk_3 (by rfl)) rfl ?_
  refine XL_det .no (D_sub rfl rfl (by omega) (by omega)) rfl ?_
  refine XL_det .no (D_pure rfl) rfl ?_
  refine XL_then ?_
  refine X_seq ?_
  refine X_seq ?_
  refine X_region ?_
  refine XL_det .no (D_pure rfl) rfl ?_
  refine XL_det .no (D_pure rfl) rfl ?_
  refine XL_then ?_
  refine X_cond rfl (fun h1 => ?_) (fun h1 => ?_)
  · try simp only [decide_eq_true_eq, decide_eq_false_iff_not, Bool.not_eq_true', Bool.not_eq_false', beq_iff_eq, bne_iff_ne, beq_eq_false_iff_ne, bne_eq_false_iff_eq, Int.not_lt, Int.not_le, gt_iff_lt, ge_iff_le, ne_eq] at h1
    refine X_region ?_
    refine XL_det .no (D_pure rfl) rfl ?_
    refine XL_then ?_
    refine X_seq ?_
    refine X_region ?_
    refine XL_det .no (D_pure rfl) rfl ?_
    refine XL_det .no (D_pure rfl) rfl ?_
    refine XL_then ?_
    refine X_ret ?_
    refine ret_ok (.nil _) (res_tmp rfl rfl) ?_
    exact ⟨_, ⟨by rw [show min (t - f) 256 = 256 by omega], rfl⟩, _, (by repeat first | with_reducible exact .nil _ | with_reducible exact .here _ _ | with_reducible exact Take.self _ | with_reducible apply Take.cons | with_reducible apply Out.there | with_reducible apply Take.skip | with_reducible exact Take.pre _ _ | with_reducible apply Out.app)⟩
  · try simp only [decide_eq_true_eq, decide_eq_false_iff_not, Bool.not_eq_true', Bool.not_eq_false', beq_iff_eq, bne_iff_ne, beq_eq_false_iff_ne, bne_eq_false_iff_eq, Int.not_lt, Int.not_le, gt_iff_lt, ge_iff_le, ne_eq] at h1
    refine X_skip ?_
    refine thenX_normal ?_
    refine X_seq ?_
    refine X_region ?_
    refine XL_det .no (D_pure rfl) rfl ?_
    refine XL_det .no (D_pure rfl) rfl ?_
    refine XL_then ?_
    refine X_ret ?_
    refine ret_ok (.nil _) (res_tmp rfl rfl) ?_
    exact ⟨_, ⟨by rw [show min (t - f) 256 = t - f by omega], rfl⟩, _, (by repeat first | with_reducible exact .nil _ | with_reducible exact .here _ _ | with_reducible exact Take.self _ | with_reducible apply Take.cons | with_reducible apply Out.there | with_reducible apply Take.skip | with_reducible exact Take.pre _ _ | with_reducible apply Out.app)⟩

theorem lright (f t : Int) (l : Arr Ev) (hl : Rd K l.ad (l.l.flatMap encE))  : Ctr Tryd.prog B 5 [.agg #[.int .i64 f, .int .i64 t], .slice l.oad l.l.length l.c] [K] (fun v S => v = .bool (okB f t l.l) ∧ S = [K]) := by
  refine Ctr_of_X (N := 49) Tryd.func5 rfl (by simp) rfl ?_
  intro w0 D0
  refine X_seq ?_
  refine X_region ?_
  refine XL_box (cs := [.int .i64 f, .int .i64 t]) .no rfl rfl rfl (fun b1 => ?_)
  refine XL_det .no (D_pure rfl) rfl ?_
  refine XL_then ?_
  refine X_seq ?_
  refine X_seq ?_
  refine X_region ?_
  refine XL_det .no (D_pure rfl) rfl ?_
  refine XL_det .no (D_len rfl rfl slc_26) rfl ?_
  refine XL_det .no (D_pure rfl) rfl ?_
  refine XL_det .no (D_pure rfl) rfl ?_
  refine XL_split (t := 9) rfl (fun h1 => ?_) (fun h1 => ?_)
  · try simp only [decide_eq_true_eq, decide_eq_false_iff_not, Bool.not_eq_true', Bool.not_eq_false', beq_iff_eq, bne_iff_ne, beq_eq_false_iff_ne, bne_eq_false_iff_eq, Int.not_lt, Int.not_le, gt_iff_lt, ge_iff_le, ne_eq] at h1
    refine XL_skip 9 rfl rfl rfl rfl rfl ?_
    refine XL_skip 9 rfl rfl rfl rfl rfl ?_
    refine XL_skip 9 rfl rfl rfl rfl rfl ?_
    refine XL_det .no (D_pure rfl) rfl ?_
    refine XL_det .no (D_pure rfl) rfl ?_
    refine XL_skip 14 rfl rfl rfl rfl rfl ?_
    refine XL_skip 14 rfl rfl rfl rfl rfl ?_
    refine XL_skip 14 rfl rfl rfl rfl rfl ?_
    refine XL_det .no (D_pure rfl) rfl ?_
    refine XL_det .no (D_pure rfl) rfl ?_
    refine XL_skip 19 rfl rfl rfl rfl rfl ?_
    refine XL_skip 19 rfl rfl rfl rfl rfl ?_
    refine XL_skip 19 rfl rfl rfl rfl rfl ?_
    refine XL_det .no (D_pure rfl) rfl ?_
    refine XL_det .no (D_pure rfl) rfl ?_
    refine XL_skip 24 rfl rfl rfl rfl rfl ?_
    refine XL_skip 24 rfl rfl rfl rfl rfl ?_
    refine XL_skip 24 rfl rfl rfl rfl rfl ?_
    refine XL_det .no (D_pure rfl) rfl ?_
    refine XL_then ?_
    refine X_cond_t rfl rfl ?_
    refine X_seq ?_
    refine X_region ?_
    refine XL_det .no (D_pure rfl) rfl ?_
    refine XL_then ?_
    refine X_ret ?_
    refine thenX_ret ?_
    refine ret_ok (.nil _) (res_tmp rfl rfl) ?_
    exact ⟨_, ⟨by rw [okB_f (fun h => by have := h.len; omega)], rfl⟩, _, (by repeat first | with_reducible exact .nil _ | with_reducible exact .here _ _ | with_reducible exact Take.self _ | with_reducible apply Take.cons | with_reducible apply Out.there | with_reducible apply Take.skip | with_reducible exact Take.pre _ _ | with_reducible apply Out.app)⟩
  · try simp only [decide_eq_true_eq, decide_eq_false_iff_not, Bool.not_eq_true', Bool.not_eq_false', beq_iff_eq, bne_iff_ne, beq_eq_false_iff_ne, bne_eq_false_iff_eq, Int.not_lt, Int.not_le, gt_iff_lt, ge_iff_le, ne_eq] at h1
    refine XL_det (.yes 9 rfl rfl rfl) (D_fld rfl fld_25_0 (o' := 0) rfl) rfl ?_
    refine XL_det (.yes 9 rfl rfl rfl) (D_ldo rfl (by repeat first | with_reducible exact .here _ _ | with_reducible apply Out.there | with_reducible apply Out.app) tk_3 (by rfl)) rfl ?_
    refine XL_det (.yes 9 rfl rfl rfl) (D_pure rfl) rfl ?_
    refine XL_det .no (D_pure rfl) rfl ?_
    refine XL_det .no (D_pure rfl) rfl ?_
    refine XL_split (t := 14) rfl (fun h2 => ?_) (fun h2 => ?_)
    · try simp only [decide_eq_true_eq, decide_eq_false_iff_not, Bool.not_eq_true', Bool.not_eq_false', beq_iff_eq, bne_iff_ne, beq_eq_false_iff_ne, bne_eq_false_iff_eq, Int.not_lt, Int.not_le, gt_iff_lt, ge_iff_le, ne_eq] at h2
      refine XL_skip 14 rfl rfl rfl rfl rfl ?_
      refine XL_skip 14 rfl rfl rfl rfl rfl ?_
      refine XL_skip 14 rfl rfl rfl rfl rfl ?_
      refine XL_det .no (D_pure rfl) rfl ?_
      refine XL_det .no (D_pure rfl) rfl ?_
      refine XL_skip 19 rfl rfl rfl rfl rfl ?_
      refine XL_skip 19 rfl rfl rfl rfl rfl ?_
      refine XL_skip 19 rfl rfl rfl rfl rfl ?_
      refine XL_det .no (D_pure rfl) rfl ?_
      refine XL_det .no (D_pure rfl) rfl ?_
      refine XL_skip 24 rfl rfl rfl rfl rfl ?_
      refine XL_skip 24 rfl rfl rfl rfl rfl ?_
      refine XL_skip 24 rfl rfl rfl rfl rfl ?_
      refine XL_det .no (D_pure rfl) rfl ?_
      refine XL_then ?_
      refine X_cond_t rfl rfl ?_
      refine X_seq ?_
      refine X_region ?_
      refine XL_det .no (D_pure rfl) rfl ?_
      refine XL_then ?_
      refine X_ret ?_
      refine thenX_ret ?_
      refine ret_ok (.nil _) (res_tmp rfl rfl) ?_
      exact ⟨_, ⟨by rw [okB_f (fun h => by have := h.f0; omega)], rfl⟩, _, (by repeat first | with_reducible exact .nil _ | with_reducible exact .here _ _ | with_reducible exact Take.self _ | with_reducible apply Take.cons | with_reducible apply Out.there | with_reducible apply Take.skip | with_reducible exact Take.pre _ _ | with_reducible apply Out.app)⟩
    · try simp only [decide_eq_true_eq, decide_eq_false_iff_not, Bool.not_eq_true', Bool.not_eq_false', beq_iff_eq, bne_iff_ne, beq_eq_false_iff_ne, bne_eq_false_iff_eq, Int.not_lt, Int.not_le, gt_iff_lt, ge_iff_le, ne_eq] at h2
      refine XL_det (.yes 14 rfl rfl rfl) (D_fld rfl fld_25_0 (o' := 0) rfl) rfl ?_
      refine XL_det (.yes 14 rfl rfl rfl) (D_ldo rfl (by repeat first | with_reducible exact .here _ _ | with_reducible apply Out.there | with_reducible apply Out.app) tk_3 (by rfl)) rfl ?_
      refine XL_det (.yes 14 rfl rfl rfl) (D_pure rfl) rfl ?_
      refine XL_det .no (D_pure rfl) rfl ?_
      refine XL_det .no (D_pure rfl) rfl ?_
      refine XL_split (t := 19) rfl (fun h3 => ?_) (fun h3 => ?_)
      · try simp only [decide_eq_true_eq, decide_eq_false_iff_not, Bool.not_eq_true', Bool.not_eq_false', beq_iff_eq, bne_iff_ne, beq_eq_false_iff_ne, bne_eq_false_iff_eq, Int.not_lt, Int.not_le, gt_iff_lt, ge_iff_le, ne_eq] at h3
        refine XL_skip 19 rfl rfl rfl rfl rfl ?_
        refine XL_skip 19 rfl rfl rfl rfl rfl ?_
        refine XL_skip 19 rfl rfl rfl rfl rfl ?_
        refine XL_det .no (D_pure rfl) rfl ?_
        refine XL_det .no (D_pure rfl) rfl ?_
        refine XL_skip 24 rfl rfl rfl rfl rfl ?_
        refine XL_skip 24 rfl rfl rfl rfl rfl ?_
        refine XL_skip 24 rfl rfl rfl rfl rfl ?_
        refine XL_det .no (D_pure rfl) rfl ?_
        refine XL_then ?_
        refine X_cond_t rfl rfl ?_
        refine X_seq ?_
        refine X_region ?_
        refine XL_det .no (D_pure rfl) rfl ?_
        refine XL_then ?_
        refine X_ret ?_
        refine thenX_ret ?_
        refine ret_ok (.nil _) (res_tmp rfl rfl) ?_
        exact ⟨_, ⟨by rw [okB_f (fun h => by have := h.f0; omega)], rfl⟩, _, (by repeat first | with_reducible exact .nil _ | with_reducible exact .here _ _ | with_reducible exact Take.self _ | with_reducible apply Take.cons | with_reducible apply Out.there | with_reducible apply Take.skip | with_reducible exact Take.pre _ _ | with_reducible apply Out.app)⟩
      · try simp only [decide_eq_true_eq, decide_eq_false_iff_not, Bool.not_eq_true', Bool.not_eq_false', beq_iff_eq, bne_iff_ne, beq_eq_false_iff_ne, bne_eq_false_iff_eq, Int.not_lt, Int.not_le, gt_iff_lt, ge_iff_le, ne_eq] at h3
        refine XL_det (.yes 19 rfl rfl rfl) (D_fld rfl fld_25_1 (o' := 1) rfl) rfl ?_
        refine XL_det (.yes 19 rfl rfl rfl) (D_ldo rfl (by repeat first | with_reducible exact .here _ _ | with_reducible apply Out.there | with_reducible apply Out.app) tk_3 (by rfl)) rfl ?_
        refine XL_det (.yes 19 rfl rfl rfl) (D_pure rfl) rfl ?_
        refine XL_det .no (D_pure rfl) rfl ?_
        refine XL_det .no (D_pure rfl) rfl ?_
        refine XL_split (t := 24) rfl (fun h4 => ?_) (fun h4 => ?_)
        · try simp only [decide_eq_true_eq, decide_eq_false_iff_not, Bool.not_eq_true', Bool.not_eq_false', beq_iff_eq, bne_iff_ne, beq_eq_false_iff_ne, bne_eq_false_iff_eq, Int.not_lt, Int.not_le, gt_iff_lt, ge_iff_le, ne_eq] at h4
          refine XL_skip 24 rfl rfl rfl rfl rfl ?_
          refine XL_skip 24 rfl rfl rfl rfl rfl ?_
          refine XL_skip 24 rfl rfl rfl rfl rfl ?_
          refine XL_det .no (D_pure rfl) rfl ?_
          refine XL_then ?_
          refine X_cond_t rfl rfl ?_
          refine X_seq ?_
          refine X_region ?_
          refine XL_det .no (D_pure rfl) rfl ?_
          refine XL_then ?_
          refine X_ret ?_
          refine thenX_ret ?_
          refine ret_ok (.nil _) (res_tmp rfl rfl) ?_
          exact ⟨_, ⟨by rw [okB_f (fun h => by have := h.t0; omega)], rfl⟩, _, (by repeat first | with_reducible exact .nil _ | with_reducible exact .here _ _ | with_reducible exact Take.self _ | with_reducible apply Take.cons | with_reducible apply Out.there | with_reducible apply Take.skip | with_reducible exact Take.pre _ _ | with_reducible apply Out.app)⟩
        · try simp only [decide_eq_true_eq, decide_eq_false_iff_not, Bool.not_eq_true', Bool.not_eq_false', beq_iff_eq, bne_iff_ne, beq_eq_false_iff_ne, bne_eq_false_iff_eq, Int.not_lt, Int.not_le, gt_iff_lt, ge_iff_le, ne_eq] at h4
          refine XL_det (.yes 24 rfl rfl rfl) (D_fld rfl fld_25_1 (o' := 1) rfl) rfl ?_
          refine XL_det (.yes 24 rfl rfl rfl) (D_ldo rfl (by repeat first | with_reducible exact .here _ _ | with_reducible apply Out.there | with_reducible apply Out.app) tk_3 (by rfl)) rfl ?_
          refine XL_det (.yes 24 rfl rfl rfl) (D_pure rfl) rfl ?_
          refine XL_det .no (D_pure rfl) rfl ?_
          refine XL_then ?_
          refine X_cond rfl (fun h5 => ?_) (fun h5 => ?_)
          · try simp only [decide_eq_true_eq, decide_eq_false_iff_not, Bool.not_eq_true', Bool.not_eq_false', beq_iff_eq, bne_iff_ne, beq_eq_false_iff_ne, bne_eq_false_iff_eq, Int.not_lt, Int.not_le, gt_iff_lt, ge_iff_le, ne_eq] at h5
            refine X_seq ?_
            refine X_region ?_
            refine XL_det .no (D_pure rfl) rfl ?_
            refine XL_then ?_
            refine X_ret ?_
            refine thenX_ret ?_
            refine ret_ok (.nil _) (res_tmp rfl rfl) ?_
            exact ⟨_, ⟨by rw [okB_f (fun h => by have := h.t0; omega)], rfl⟩, _, (by repeat first | with_reducible exact .nil _ | with_reducible exact .here _ _ | with_reducible exact Take.self _ | with_reducible apply Take.cons | with_reducible apply Out.there | with_reducible apply Take.skip | with_reducible exact Take.pre _ _ | with_reducible apply Out.app)⟩
          · try simp only [decide_eq_true_eq, decide_eq_false_iff_not, Bool.not_eq_true', Bool.not_eq_false', beq_iff_eq, bne_iff_ne, beq_eq_false_iff_ne, bne_eq_false_iff_eq, Int.not_lt, Int.not_le, gt_iff_lt, ge_iff_le, ne_eq] at h5
            refine X_skip ?_
            refine thenX_normal ?_
            refine X_seq ?_
            refine X_seq ?_
            refine X_region ?_
            refine XL_det .no (D_pure rfl) rfl ?_
            refine XL_then ?_
            refine X_block ?_
            refine X_loop (α := Nat) (fun i => i ≤ l.l.length ∧ ∀ e ∈ l.l.take i, 0 ≤ e.tick ∧ e.tick ≤ 1073741824) (fun i => [(5, .int .i64 (i : Int)), (1, .slice l.oad l.l.length l.c)]) (fun i => [K]) (fun i => l.l.length - i) 0 ?_ (by refine ⟨?_, ?_, trivial⟩ <;> rfl) (by repeat first | with_reducible exact .nil _ | with_reducible exact .here _ _ | with_reducible exact Take.self _ | with_reducible apply Take.cons | with_reducible apply Out.there | with_reducible apply Take.skip | with_reducible exact Take.pre _ _ | with_reducible apply Out.app) ?_
            · exact ⟨Nat.zero_le _, fun e h => by simp at h⟩
            · rintro i ⟨hi, hall⟩
              refine X_seq ?_
              refine X_seq ?_
              refine X_region ?_
              refine XL_det .no (D_pure rfl) rfl ?_
              refine XL_det .no (D_pure rfl) rfl ?_
              refine XL_det .no (D_len rfl rfl slc_26) rfl ?_
              refine XL_det .no (D_pure rfl) rfl ?_
              refine XL_then ?_
              refine X_cond rfl (fun h6 => ?_) (fun h6 => ?_)
              · try simp only [decide_eq_true_eq, decide_eq_false_iff_not, Bool.not_eq_true', Bool.not_eq_false', beq_iff_eq, bne_iff_ne, beq_eq_false_iff_ne, bne_eq_false_iff_eq, Int.not_lt, Int.not_le, gt_iff_lt, ge_iff_le, ne_eq] at h6
                obtain ⟨e, hg⟩ : ∃ e, l.l[i]? = some e := ⟨_, List.getElem?_eq_getElem (by omega)⟩
                refine X_skip ?_
                refine thenX_normal ?_
                refine X_seq ?_
                refine X_block ?_
                refine X_seq ?_
                refine X_region ?_
                refine XL_det .no (D_pure rfl) rfl ?_
                refine XL_det .no (D_pure rfl) rfl ?_
                refine XL_det .no (D_idxSo rfl rfl slc_26 (l).nil0 rfl (by omega) rfl) rfl ?_
                refine XL_det .no (D_fldA rfl fld_38_0 rfl) rfl ?_
                refine XL_det .no (D_ela (enc := encE) (sz := 4) (i := i) (k := 0) (fun _ => rfl) rfl (by repeat first | with_reducible exact .here _ _ | with_reducible apply Out.there | with_reducible apply Out.app) hl tk_3 hg rfl) rfl ?_
                refine XL_det .no (D_pure rfl) rfl ?_
                refine XL_det .no (D_pure rfl) rfl ?_
                refine XL_split (t := 41) rfl (fun h7 => ?_) (fun h7 => ?_)
                · try simp only [decide_eq_true_eq, decide_eq_false_iff_not, Bool.not_eq_true', Bool.not_eq_false', beq_iff_eq, bne_iff_ne, beq_eq_false_iff_ne, bne_eq_false_iff_eq, Int.not_lt, Int.not_le, gt_iff_lt, ge_iff_le, ne_eq] at h7
                  refine XL_skip 41 rfl rfl rfl rfl rfl ?_
                  refine XL_skip 41 rfl rfl rfl rfl rfl ?_
                  refine XL_skip 41 rfl rfl rfl rfl rfl ?_
                  refine XL_skip 41 rfl rfl rfl rfl rfl ?_
                  refine XL_skip 41 rfl rfl rfl rfl rfl ?_
                  refine XL_skip 41 rfl rfl rfl rfl rfl ?_
                  refine XL_det .no (D_pure rfl) rfl ?_
                  refine XL_then ?_
                  refine X_cond_t rfl rfl ?_
                  refine X_seq ?_
                  refine X_region ?_
                  refine XL_det .no (D_pure rfl) rfl ?_
                  refine XL_then ?_
                  refine X_ret ?_
                  refine inBlk_ret ?_
                  refine thenX_ret ?_
                  refine loopQ_ret ?_
                  refine inBlk_ret ?_
                  refine thenX_ret ?_
                  refine ret_ok (.nil _) (res_tmp rfl rfl) ?_
                  exact ⟨_, ⟨by rw [okB_f (fun h => by have := h.ev e (List.mem_of_getElem? hg); omega)], rfl⟩, _, (by repeat first | with_reducible exact .nil _ | with_reducible exact .here _ _ | with_reducible exact Take.self _ | with_reducible apply Take.cons | with_reducible apply Out.there | with_reducible apply Take.skip | with_reducible exact Take.pre _ _ | with_reducible apply Out.app)⟩
                · try simp only [decide_eq_true_eq, decide_eq_false_iff_not, Bool.not_eq_true', Bool.not_eq_false', beq_iff_eq, bne_iff_ne, beq_eq_false_iff_ne, bne_eq_false_iff_eq, Int.not_lt, Int.not_le, gt_iff_lt, ge_iff_le, ne_eq] at h7
                  refine XL_det (.yes 41 rfl rfl rfl) (D_pure rfl) rfl ?_
                  refine XL_det (.yes 41 rfl rfl rfl) (D_pure rfl) rfl ?_
                  refine XL_det (.yes 41 rfl rfl rfl) (D_idxSo rfl rfl slc_26 (l).nil0 rfl (by omega) rfl) rfl ?_
                  refine XL_det (.yes 41 rfl rfl rfl) (D_fldA rfl fld_38_0 rfl) rfl ?_
                  refine XL_det (.yes 41 rfl rfl rfl) (D_ela (enc := encE) (sz := 4) (i := i) (k := 0) (fun _ => rfl) rfl (by repeat first | with_reducible exact .here _ _ | with_reducible apply Out.there | with_reducible apply Out.app) hl tk_3 hg rfl) rfl ?_
                  refine XL_det (.yes 41 rfl rfl rfl) (D_pure rfl) rfl ?_
                  refine XL_det .no (D_pure rfl) rfl ?_
                  refine XL_then ?_
                  refine X_cond rfl (fun h8 => ?_) (fun h8 => ?_)
                  · try simp only [decide_eq_true_eq, decide_eq_false_iff_not, Bool.not_eq_true', Bool.not_eq_false', beq_iff_eq, bne_iff_ne, beq_eq_false_iff_ne, bne_eq_false_iff_eq, Int.not_lt, Int.not_le, gt_iff_lt, ge_iff_le, ne_eq] at h8
                    refine X_seq ?_
                    refine X_region ?_
                    refine XL_det .no (D_pure rfl) rfl ?_
                    refine XL_then ?_
                    refine X_ret ?_
                    refine inBlk_ret ?_
                    refine thenX_ret ?_
                    refine loopQ_ret ?_
                    refine inBlk_ret ?_
                    refine thenX_ret ?_
                    refine ret_ok (.nil _) (res_tmp rfl rfl) ?_
                    exact ⟨_, ⟨by rw [okB_f (fun h => by have := h.ev e (List.mem_of_getElem? hg); omega)], rfl⟩, _, (by repeat first | with_reducible exact .nil _ | with_reducible exact .here _ _ | with_reducible exact Take.self _ | with_reducible apply Take.cons | with_reducible apply Out.there | with_reducible apply Take.skip | with_reducible exact Take.pre _ _ | with_reducible apply Out.app)⟩
                  · try simp only [decide_eq_true_eq, decide_eq_false_iff_not, Bool.not_eq_true', Bool.not_eq_false', beq_iff_eq, bne_iff_ne, beq_eq_false_iff_ne, bne_eq_false_iff_eq, Int.not_lt, Int.not_le, gt_iff_lt, ge_iff_le, ne_eq] at h8
                    refine X_skip ?_
                    refine inBlk_normal ?_
                    refine thenX_normal ?_
                    refine X_region ?_
                    refine XL_det .no (D_pure rfl) rfl ?_
                    refine XL_det .no (D_add rfl rfl (by omega) (by omega)) rfl ?_
                    refine XL_det .no (D_pure rfl) rfl ?_
                    refine XL_nil ?_
                    refine loopQ_next (i + 1) ?_ ?_ ?_ ?_
                    · exact ⟨by omega, take_allE hg hall ⟨by omega, by omega⟩⟩
                    · omega
                    · refine ⟨?_, ?_, trivial⟩ <;> rfl
                    · exact ⟨_, (by repeat first | with_reducible exact .nil _ | with_reducible exact .here _ _ | with_reducible exact Take.self _ | with_reducible apply Take.cons | with_reducible apply Out.there | with_reducible apply Take.skip | with_reducible exact Take.pre _ _ | with_reducible apply Out.app)⟩
              · try simp only [decide_eq_true_eq, decide_eq_false_iff_not, Bool.not_eq_true', Bool.not_eq_false', beq_iff_eq, bne_iff_ne, beq_eq_false_iff_ne, bne_eq_false_iff_eq, Int.not_lt, Int.not_le, gt_iff_lt, ge_iff_le, ne_eq] at h6
                refine X_exit ?_
                refine thenX_exit ?_
                refine loopQ_exit ?_
                refine inBlk_here ?_
                refine thenX_normal ?_
                refine X_seq ?_
                refine X_region ?_
                refine XL_det .no (D_pure rfl) rfl ?_
                refine XL_then ?_
                refine X_ret ?_
                refine ret_ok (.nil _) (res_tmp rfl rfl) ?_
                exact ⟨_, ⟨by rw [okB_t ⟨by omega, by omega, by omega, by rw [List.take_of_length_le (by omega)] at hall; exact hall⟩], rfl⟩, _, (by repeat first | with_reducible exact .nil _ | with_reducible exact .here _ _ | with_reducible exact Take.self _ | with_reducible apply Take.cons | with_reducible apply Out.there | with_reducible apply Take.skip | with_reducible exact Take.pre _ _ | with_reducible apply Out.app)⟩

theorem lruns (l : Arr Ev) (hl : Rd K l.ad (l.l.flatMap encE)) (k t : Int) : Ctr Tryd.prog B 9 [.slice l.oad l.l.length l.c, .int .i64 k, .int .i64 t] [K] (fun v S => v = .bool (runsL k t l.l) ∧ S = [K]) := by
  refine Ctr_of_X (N := 38) Tryd.func9 rfl (by simp) rfl ?_
  intro w0 D0
  refine X_seq ?_
  refine X_region ?_
  refine XL_det .no (D_pure rfl) rfl ?_
  refine XL_then ?_
  refine X_seq ?_
  refine X_seq ?_
  refine X_region ?_
  refine XL_det .no (D_pure rfl) rfl ?_
  refine XL_then ?_
  refine X_block ?_
  refine X_loop (α := Nat) (fun i => i ≤ l.l.length ∧ runsL k t (l.l.take i) = false) (fun i => [(7, .int .i64 (i : Int)), (0, .slice l.oad l.l.length l.c), (1, .int .i64 k), (2, .int .i64 t)]) (fun i => [K]) (fun i => l.l.length - i) 0 ?_ (by refine ⟨?_, ?_, ?_, ?_, trivial⟩ <;> rfl) (by repeat first | with_reducible exact .nil _ | with_reducible exact .here _ _ | with_reducible exact Take.self _ | with_reducible apply Take.cons | with_reducible apply Out.there | with_reducible apply Take.skip | with_reducible exact Take.pre _ _ | with_reducible apply Out.app) ?_
  · exact ⟨Nat.zero_le _, rfl⟩
  · rintro i ⟨hi, hr⟩
    have hsm := l.small
    refine X_seq ?_
    refine X_seq ?_
    refine X_region ?_
    refine XL_det .no (D_pure rfl) rfl ?_
    refine XL_det .no (D_pure rfl) rfl ?_
    refine XL_det .no (D_len rfl rfl slc_26) rfl ?_
    refine XL_det .no (D_pure rfl) rfl ?_
    refine XL_then ?_
    refine X_cond rfl (fun h1 => ?_) (fun h1 => ?_)
    · try simp only [decide_eq_true_eq, decide_eq_false_iff_not, Bool.not_eq_true', Bool.not_eq_false', beq_iff_eq, bne_iff_ne, beq_eq_false_iff_ne, bne_eq_false_iff_eq, Int.not_lt, Int.not_le, gt_iff_lt, ge_iff_le, ne_eq] at h1
      obtain ⟨e, hg⟩ : ∃ e, l.l[i]? = some e := ⟨_, List.getElem?_eq_getElem (by omega)⟩
      refine X_skip ?_
      refine thenX_normal ?_
      refine X_seq ?_
      refine X_block ?_
      refine X_seq ?_
      refine X_region ?_
      refine XL_det .no (D_pure rfl) rfl ?_
      refine XL_det .no (D_pure rfl) rfl ?_
      refine XL_det .no (D_idxSo rfl rfl slc_26 (l).nil0 rfl (by omega) rfl) rfl ?_
      refine XL_det .no (D_fldA rfl fld_38_2 rfl) rfl ?_
      refine XL_det .no (D_ela (enc := encE) (sz := 4) (i := i) (k := 2) (fun _ => rfl) rfl (by repeat first | with_reducible exact .here _ _ | with_reducible apply Out.there | with_reducible apply Out.app) hl tk_3 hg rfl) rfl ?_
      refine XL_det .no (D_pure rfl) rfl ?_
      refine XL_det .no (D_pure rfl) rfl ?_
      refine XL_det .no (D_pure rfl) rfl ?_
      refine XL_split (t := 21) rfl (fun h2 => ?_) (fun h2 => ?_)
      · try simp only [decide_eq_true_eq, decide_eq_false_iff_not, Bool.not_eq_true', Bool.not_eq_false', beq_iff_eq, bne_iff_ne, beq_eq_false_iff_ne, bne_eq_false_iff_eq, Int.not_lt, Int.not_le, gt_iff_lt, ge_iff_le, ne_eq] at h2
        refine XL_det (.yes 21 rfl rfl rfl) (D_pure rfl) rfl ?_
        refine XL_det (.yes 21 rfl rfl rfl) (D_pure rfl) rfl ?_
        refine XL_det (.yes 21 rfl rfl rfl) (D_idxSo rfl rfl slc_26 (l).nil0 rfl (by omega) rfl) rfl ?_
        refine XL_det (.yes 21 rfl rfl rfl) (D_fldA rfl fld_38_1 rfl) rfl ?_
        refine XL_det (.yes 21 rfl rfl rfl) (D_ela (enc := encE) (sz := 4) (i := i) (k := 1) (fun _ => rfl) rfl (by repeat first | with_reducible exact .here _ _ | with_reducible apply Out.there | with_reducible apply Out.app) hl tk_36 hg rfl) rfl ?_
        refine XL_det (.yes 21 rfl rfl rfl) (D_pure rfl) rfl ?_
        refine XL_det .no (D_pure rfl) rfl ?_
        refine XL_det .no (D_pure rfl) rfl ?_
        refine XL_split (t := 29) rfl (fun h3 => ?_) (fun h3 => ?_)
        · try simp only [decide_eq_true_eq, decide_eq_false_iff_not, Bool.not_eq_true', Bool.not_eq_false', beq_iff_eq, bne_iff_ne, beq_eq_false_iff_ne, bne_eq_false_iff_eq, Int.not_lt, Int.not_le, gt_iff_lt, ge_iff_le, ne_eq] at h3
          refine XL_det (.yes 29 rfl rfl rfl) (D_pure rfl) rfl ?_
          refine XL_det (.yes 29 rfl rfl rfl) (D_pure rfl) rfl ?_
          refine XL_det (.yes 29 rfl rfl rfl) (D_idxSo rfl rfl slc_26 (l).nil0 rfl (by omega) rfl) rfl ?_
          refine XL_det (.yes 29 rfl rfl rfl) (D_fldA rfl fld_38_0 rfl) rfl ?_
          refine XL_det (.yes 29 rfl rfl rfl) (D_ela (enc := encE) (sz := 4) (i := i) (k := 0) (fun _ => rfl) rfl (by repeat first | with_reducible exact .here _ _ | with_reducible apply Out.there | with_reducible apply Out.app) hl tk_3 hg rfl) rfl ?_
          refine XL_det (.yes 29 rfl rfl rfl) (D_pure rfl) rfl ?_
          refine XL_det (.yes 29 rfl rfl rfl) (D_pure rfl) rfl ?_
          refine XL_det .no (D_pure rfl) rfl ?_
          refine XL_then ?_
          refine X_cond rfl (fun h4 => ?_) (fun h4 => ?_)
          · try simp only [decide_eq_true_eq, decide_eq_false_iff_not, Bool.not_eq_true', Bool.not_eq_false', beq_iff_eq, bne_iff_ne, beq_eq_false_iff_ne, bne_eq_false_iff_eq, Int.not_lt, Int.not_le, gt_iff_lt, ge_iff_le, ne_eq] at h4
            refine X_seq ?_
            refine X_region ?_
            refine XL_det .no (D_pure rfl) rfl ?_
            refine XL_then ?_
            refine X_ret ?_
            refine inBlk_ret ?_
            refine thenX_ret ?_
            refine loopQ_ret ?_
            refine inBlk_ret ?_
            refine thenX_ret ?_
            refine ret_ok (.nil _) (res_tmp rfl rfl) ?_
            exact ⟨_, ⟨by rw [runs_t hg ⟨by assumption, by assumption, by assumption⟩], rfl⟩, _, (by repeat first | with_reducible exact .nil _ | with_reducible exact .here _ _ | with_reducible exact Take.self _ | with_reducible apply Take.cons | with_reducible apply Out.there | with_reducible apply Take.skip | with_reducible exact Take.pre _ _ | with_reducible apply Out.app)⟩
          · try simp only [decide_eq_true_eq, decide_eq_false_iff_not, Bool.not_eq_true', Bool.not_eq_false', beq_iff_eq, bne_iff_ne, beq_eq_false_iff_ne, bne_eq_false_iff_eq, Int.not_lt, Int.not_le, gt_iff_lt, ge_iff_le, ne_eq] at h4
            refine X_skip ?_
            refine inBlk_normal ?_
            refine thenX_normal ?_
            refine X_region ?_
            refine XL_det .no (D_pure rfl) rfl ?_
            refine XL_det .no (D_add rfl rfl (by omega) (by omega)) rfl ?_
            refine XL_det .no (D_pure rfl) rfl ?_
            refine XL_nil ?_
            refine loopQ_next (i + 1) ?_ ?_ ?_ ?_
            · exact ⟨by omega, runs_s hg hr (fun e => by obtain ⟨e1, e2, e3⟩ := e; first | exact absurd e1 (by assumption) | exact absurd e2 (by assumption) | exact absurd e3 (by assumption))⟩
            · omega
            · refine ⟨?_, ?_, ?_, ?_, trivial⟩ <;> rfl
            · exact ⟨_, (by repeat first | with_reducible exact .nil _ | with_reducible exact .here _ _ | with_reducible exact Take.self _ | with_reducible apply Take.cons | with_reducible apply Out.there | with_reducible apply Take.skip | with_reducible exact Take.pre _ _ | with_reducible apply Out.app)⟩
        · try simp only [decide_eq_true_eq, decide_eq_false_iff_not, Bool.not_eq_true', Bool.not_eq_false', beq_iff_eq, bne_iff_ne, beq_eq_false_iff_ne, bne_eq_false_iff_eq, Int.not_lt, Int.not_le, gt_iff_lt, ge_iff_le, ne_eq] at h3
          refine XL_skip 29 rfl rfl rfl rfl rfl ?_
          refine XL_skip 29 rfl rfl rfl rfl rfl ?_
          refine XL_skip 29 rfl rfl rfl rfl rfl ?_
          refine XL_skip 29 rfl rfl rfl rfl rfl ?_
          refine XL_skip 29 rfl rfl rfl rfl rfl ?_
          refine XL_skip 29 rfl rfl rfl rfl rfl ?_
          refine XL_skip 29 rfl rfl rfl rfl rfl ?_
          refine XL_det .no (D_pure rfl) rfl ?_
          refine XL_then ?_
          refine X_cond_f rfl rfl ?_
          refine X_skip ?_
          refine inBlk_normal ?_
          refine thenX_normal ?_
          refine X_region ?_
          refine XL_det .no (D_pure rfl) rfl ?_
          refine XL_det .no (D_add rfl rfl (by omega) (by omega)) rfl ?_
          refine XL_det .no (D_pure rfl) rfl ?_
          refine XL_nil ?_
          refine loopQ_next (i + 1) ?_ ?_ ?_ ?_
          · exact ⟨by omega, runs_s hg hr (fun e => by obtain ⟨e1, e2, e3⟩ := e; first | exact absurd e1 (by assumption) | exact absurd e2 (by assumption) | exact absurd e3 (by assumption))⟩
          · omega
          · refine ⟨?_, ?_, ?_, ?_, trivial⟩ <;> rfl
          · exact ⟨_, (by repeat first | with_reducible exact .nil _ | with_reducible exact .here _ _ | with_reducible exact Take.self _ | with_reducible apply Take.cons | with_reducible apply Out.there | with_reducible apply Take.skip | with_reducible exact Take.pre _ _ | with_reducible apply Out.app)⟩
      · try simp only [decide_eq_true_eq, decide_eq_false_iff_not, Bool.not_eq_true', Bool.not_eq_false', beq_iff_eq, bne_iff_ne, beq_eq_false_iff_ne, bne_eq_false_iff_eq, Int.not_lt, Int.not_le, gt_iff_lt, ge_iff_le, ne_eq] at h2
        refine XL_skip 21 rfl rfl rfl rfl rfl ?_
        refine XL_skip 21 rfl rfl rfl rfl rfl ?_
        refine XL_skip 21 rfl rfl rfl rfl rfl ?_
        refine XL_skip 21 rfl rfl rfl rfl rfl ?_
        refine XL_skip 21 rfl rfl rfl rfl rfl ?_
        refine XL_skip 21 rfl rfl rfl rfl rfl ?_
        refine XL_det .no (D_pure rfl) rfl ?_
        refine XL_det .no (D_pure rfl) rfl ?_
        refine XL_skip 29 rfl rfl rfl rfl rfl ?_
        refine XL_skip 29 rfl rfl rfl rfl rfl ?_
        refine XL_skip 29 rfl rfl rfl rfl rfl ?_
        refine XL_skip 29 rfl rfl rfl rfl rfl ?_
        refine XL_skip 29 rfl rfl rfl rfl rfl ?_
        refine XL_skip 29 rfl rfl rfl rfl rfl ?_
        refine XL_skip 29 rfl rfl rfl rfl rfl ?_
        refine XL_det .no (D_pure rfl) rfl ?_
        refine XL_then ?_
        refine X_cond_f rfl rfl ?_
        refine X_skip ?_
        refine inBlk_normal ?_
        refine thenX_normal ?_
        refine X_region ?_
        refine XL_det .no (D_pure rfl) rfl ?_
        refine XL_det .no (D_add rfl rfl (by omega) (by omega)) rfl ?_
        refine XL_det .no (D_pure rfl) rfl ?_
        refine XL_nil ?_
        refine loopQ_next (i + 1) ?_ ?_ ?_ ?_
        · exact ⟨by omega, runs_s hg hr (fun e => by obtain ⟨e1, e2, e3⟩ := e; first | exact absurd e1 (by assumption) | exact absurd e2 (by assumption) | exact absurd e3 (by assumption))⟩
        · omega
        · refine ⟨?_, ?_, ?_, ?_, trivial⟩ <;> rfl
        · exact ⟨_, (by repeat first | with_reducible exact .nil _ | with_reducible exact .here _ _ | with_reducible exact Take.self _ | with_reducible apply Take.cons | with_reducible apply Out.there | with_reducible apply Take.skip | with_reducible exact Take.pre _ _ | with_reducible apply Out.app)⟩
    · try simp only [decide_eq_true_eq, decide_eq_false_iff_not, Bool.not_eq_true', Bool.not_eq_false', beq_iff_eq, bne_iff_ne, beq_eq_false_iff_ne, bne_eq_false_iff_eq, Int.not_lt, Int.not_le, gt_iff_lt, ge_iff_le, ne_eq] at h1
      refine X_exit ?_
      refine thenX_exit ?_
      refine loopQ_exit ?_
      refine inBlk_here ?_
      refine thenX_normal ?_
      refine X_seq ?_
      refine X_region ?_
      refine XL_det .no (D_pure rfl) rfl ?_
      refine XL_then ?_
      refine X_ret ?_
      refine ret_ok (.nil _) (res_tmp rfl rfl) ?_
      exact ⟨_, ⟨by rw [← hr, List.take_of_length_le (by omega)], rfl⟩, _, (by repeat first | with_reducible exact .nil _ | with_reducible exact .here _ _ | with_reducible exact Take.self _ | with_reducible apply Take.cons | with_reducible apply Out.there | with_reducible apply Take.skip | with_reducible exact Take.pre _ _ | with_reducible apply Out.app)⟩

end Go.Proofs.YtjcpggoodbkedaaDoor
end

section
namespace Go.Proofs.YtjcpggoodbkedaaDoor
open Go Go.Sl
set_option linter.unusedVariables false
set_option linter.unusedSimpArgs false
set_option maxRecDepth 4000
variable {B : Nat} {K : Asrt B}


/-- The scan so far: at place m, with what was found. -/
structure Sc (k : Int) (l : List Ev) (i m : Nat) (en : Int) (an : Bool) : Prop where
  le : i + 1 ≤ m ∧ m ≤ l.length
  eq : scan k (l.drop (i + 1)) = if en = 2147483648 ∧ an = false then scan k (l.drop m) else (en, an)
theorem Sc.init {k : Int} {l : List Ev} {i : Nat} (h : i < l.length) : Sc k l i (i + 1) 2147483648 false := ⟨⟨Nat.le_refl _, h⟩, by rw [if_pos ⟨rfl, rfl⟩]⟩
theorem Sc.fin {k : Int} {l : List Ev} {i m : Nat} {en : Int} {an : Bool} (h : Sc k l i m en an) (hx : m = l.length ∨ en ≠ 2147483648 ∨ an = true) : scan k (l.drop (i + 1)) = (en, an) := by
  rw [h.eq]
  by_cases hc : en = 2147483648 ∧ an = false
  · rw [if_pos hc]
    have hm : m = l.length := by
      rcases hx with hx | hx | hx
      · exact hx
      · exact absurd hc.1 hx
      · rw [hc.2] at hx; cases hx
    rw [hm, List.drop_length, hc.1, hc.2]; rfl
  · rw [if_neg hc]
theorem Sc.over {k : Int} {l : List Ev} {i m : Nat} {e : Ev} (h : Sc k l i m 2147483648 false) (hm : l[m]? = some e) (h3 : e.a = k ∧ e.kind = 3) (ht : e.tick ≠ 2147483648) : Sc k l i (m + 1) e.tick false := by
  obtain ⟨h1, h2⟩ := List.getElem?_eq_some_iff.1 hm
  refine ⟨⟨by have := h.le; omega, h1⟩, ?_⟩
  rw [h.eq, if_pos ⟨rfl, rfl⟩, scan_drop hm, if_pos h3, if_neg (fun c => ht c.1)]
theorem Sc.came {k : Int} {l : List Ev} {i m : Nat} {e : Ev} (h : Sc k l i m 2147483648 false) (hm : l[m]? = some e) (h2' : e.a = k ∧ e.kind = 2) : Sc k l i (m + 1) 2147483648 true := by
  obtain ⟨h1, h2⟩ := List.getElem?_eq_some_iff.1 hm
  refine ⟨⟨by have := h.le; omega, h1⟩, ?_⟩
  rw [h.eq, if_pos ⟨rfl, rfl⟩, scan_drop hm, if_neg (fun c => by have := h2'.2; have := c.2; omega), if_pos h2', if_neg (fun c => by cases c.2)]
theorem Sc.other {k : Int} {l : List Ev} {i m : Nat} {e : Ev} (h : Sc k l i m 2147483648 false) (hm : l[m]? = some e) (h3 : ¬ (e.a = k ∧ e.kind = 3)) (h2' : ¬ (e.a = k ∧ e.kind = 2)) : Sc k l i (m + 1) 2147483648 false := by
  obtain ⟨h1, h2⟩ := List.getElem?_eq_some_iff.1 hm
  refine ⟨⟨by have := h.le; omega, h1⟩, ?_⟩
  rw [h.eq, if_pos ⟨rfl, rfl⟩, scan_drop hm, if_neg h3, if_neg h2', if_pos ⟨rfl, rfl⟩]


theorem Sc.any {k : Int} {l : List Ev} {i m : Nat} {e : Ev} (h : Sc k l i m 2147483648 false) (hm : l[m]? = some e) (ha : e.a = k) (h3 : ¬ e.kind = 3) : Sc k l i (m + 1) 2147483648 (e.kind == 2) := by
  by_cases hk2 : e.kind = 2
  · rw [show (e.kind == 2) = true by simp [hk2]]; exact h.came hm ⟨ha, hk2⟩
  · rw [show (e.kind == 2) = false by simp [hk2]]; exact h.other hm (fun c => h3 c.2) (fun c => hk2 c.2)

theorem lthere (l : Arr Ev) (hl : Rd K l.ad (l.l.flatMap encE)) (k t : Int) (hev : ∀ e ∈ l.l, 0 ≤ e.tick ∧ e.tick ≤ 1073741824) : Ctr Tryd.prog B 8 [.slice l.oad l.l.length l.c, .int .i64 k, .int .i64 t] [K] (fun v S => v = .bool (thereL k t l.l) ∧ S = [K]) := by
  refine Ctr_of_X (N := 99) Tryd.func8 rfl (by simp) rfl ?_
  intro w0 D0
  refine X_seq ?_
  refine X_region ?_
  refine XL_det .no (D_pure rfl) rfl ?_
  refine XL_then ?_
  refine X_seq ?_
  refine X_seq ?_
  refine X_region ?_
  refine XL_det .no (D_pure rfl) rfl ?_
  refine XL_then ?_
  refine X_block ?_
  refine X_loop (α := Nat) (fun i => i ≤ l.l.length ∧ thereL k t l.l = thereL k t (l.l.drop i)) (fun i => [(7, .int .i64 (i : Int)), (0, .slice l.oad l.l.length l.c), (1, .int .i64 k), (2, .int .i64 t)]) (fun i => [K]) (fun i => l.l.length - i) 0 ?_ (by refine ⟨?_, ?_, ?_, ?_, trivial⟩ <;> rfl) (by repeat first | with_reducible exact .nil _ | with_reducible exact .here _ _ | with_reducible exact Take.self _ | with_reducible apply Take.cons | with_reducible apply Out.there | with_reducible apply Take.skip | with_reducible exact Take.pre _ _ | with_reducible apply Out.app) ?_
  · exact ⟨Nat.zero_le _, rfl⟩
  · rintro i ⟨hi, hr⟩
    have hsm := l.small
    refine X_seq ?_
    refine X_seq ?_
    refine X_region ?_
    refine XL_det .no (D_pure rfl) rfl ?_
    refine XL_det .no (D_pure rfl) rfl ?_
    refine XL_det .no (D_len rfl rfl slc_26) rfl ?_
    refine XL_det .no (D_pure rfl) rfl ?_
    refine XL_then ?_
    refine X_cond rfl (fun h1 => ?_) (fun h1 => ?_)
    · try simp only [decide_eq_true_eq, decide_eq_false_iff_not, Bool.not_eq_true', Bool.not_eq_false', beq_iff_eq, bne_iff_ne, beq_eq_false_iff_ne, bne_eq_false_iff_eq, Int.not_lt, Int.not_le, gt_iff_lt, ge_iff_le, ne_eq] at h1
      obtain ⟨e, hg⟩ : ∃ e, l.l[i]? = some e := ⟨_, List.getElem?_eq_getElem (by omega)⟩
      refine X_skip ?_
      refine thenX_normal ?_
      refine X_seq ?_
      refine X_block ?_
      refine X_seq ?_
      refine X_seq ?_
      refine X_region ?_
      refine XL_det .no (D_pure rfl) rfl ?_
      refine XL_det .no (D_pure rfl) rfl ?_
      refine XL_det .no (D_idxSo rfl rfl slc_26 (l).nil0 rfl (by omega) rfl) rfl ?_
      refine XL_det .no (D_fldA rfl fld_38_2 rfl) rfl ?_
      refine XL_det .no (D_ela (enc := encE) (sz := 4) (i := i) (k := 2) (fun _ => rfl) rfl (by repeat first | with_reducible exact .here _ _ | with_reducible apply Out.there | with_reducible apply Out.app) hl tk_3 hg rfl) rfl ?_
      refine XL_det .no (D_pure rfl) rfl ?_
      refine XL_det .no (D_pure rfl) rfl ?_
      refine XL_det .no (D_pure rfl) rfl ?_
      refine XL_split (t := 24) rfl (fun h2 => ?_) (fun h2 => ?_)
      · try simp only [decide_eq_true_eq, decide_eq_false_iff_not, Bool.not_eq_true', Bool.not_eq_false', beq_iff_eq, bne_iff_ne, beq_eq_false_iff_ne, bne_eq_false_iff_eq, Int.not_lt, Int.not_le, gt_iff_lt, ge_iff_le, ne_eq] at h2
        refine XL_skip 24 rfl rfl rfl rfl rfl ?_
        refine XL_skip 24 rfl rfl rfl rfl rfl ?_
        refine XL_skip 24 rfl rfl rfl rfl rfl ?_
        refine XL_skip 24 rfl rfl rfl rfl rfl ?_
        refine XL_skip 24 rfl rfl rfl rfl rfl ?_
        refine XL_skip 24 rfl rfl rfl rfl rfl ?_
        refine XL_det .no (D_pure rfl) rfl ?_
        refine XL_then ?_
        refine X_cond_t rfl rfl ?_
        refine X_exit ?_
        refine thenX_exit ?_
        refine inBlk_here ?_
        refine thenX_normal ?_
        refine X_region ?_
        refine XL_det .no (D_pure rfl) rfl ?_
        refine XL_det .no (D_add rfl rfl (by omega) (by omega)) rfl ?_
        refine XL_det .no (D_pure rfl) rfl ?_
        refine XL_nil ?_
        refine loopQ_next (i + 1) ?_ ?_ ?_ ?_
        · exact ⟨by omega, by rw [hr, there_drop hg, decide_eq_false (fun c => absurd c.1 h2)]; rfl⟩
        · omega
        · refine ⟨?_, ?_, ?_, ?_, trivial⟩ <;> rfl
        · exact ⟨_, (by repeat first | with_reducible exact .nil _ | with_reducible exact .here _ _ | with_reducible exact Take.self _ | with_reducible apply Take.cons | with_reducible apply Out.there | with_reducible apply Take.skip | with_reducible exact Take.pre _ _ | with_reducible apply Out.app)⟩
      · try simp only [decide_eq_true_eq, decide_eq_false_iff_not, Bool.not_eq_true', Bool.not_eq_false', beq_iff_eq, bne_iff_ne, beq_eq_false_iff_ne, bne_eq_false_iff_eq, Int.not_lt, Int.not_le, gt_iff_lt, ge_iff_le, ne_eq] at h2
        refine XL_det (.yes 24 rfl rfl rfl) (D_pure rfl) rfl ?_
        refine XL_det (.yes 24 rfl rfl rfl) (D_pure rfl) rfl ?_
        refine XL_det (.yes 24 rfl rfl rfl) (D_idxSo rfl rfl slc_26 (l).nil0 rfl (by omega) rfl) rfl ?_
        refine XL_det (.yes 24 rfl rfl rfl) (D_fldA rfl fld_38_1 rfl) rfl ?_
        refine XL_det (.yes 24 rfl rfl rfl) (D_ela (enc := encE) (sz := 4) (i := i) (k := 1) (fun _ => rfl) rfl (by repeat first | with_reducible exact .here _ _ | with_reducible apply Out.there | with_reducible apply Out.app) hl tk_36 hg rfl) rfl ?_
        refine XL_det (.yes 24 rfl rfl rfl) (D_pure rfl) rfl ?_
        refine XL_det .no (D_pure rfl) rfl ?_
        refine XL_then ?_
        refine X_cond rfl (fun h3 => ?_) (fun h3 => ?_)
        · try simp only [decide_eq_true_eq, decide_eq_false_iff_not, Bool.not_eq_true', Bool.not_eq_false', beq_iff_eq, bne_iff_ne, beq_eq_false_iff_ne, bne_eq_false_iff_eq, Int.not_lt, Int.not_le, gt_iff_lt, ge_iff_le, ne_eq] at h3
          refine X_exit ?_
          refine thenX_exit ?_
          refine inBlk_here ?_
          refine thenX_normal ?_
          refine X_region ?_
          refine XL_det .no (D_pure rfl) rfl ?_
          refine XL_det .no (D_add rfl rfl (by omega) (by omega)) rfl ?_
          refine XL_det .no (D_pure rfl) rfl ?_
          refine XL_nil ?_
          refine loopQ_next (i + 1) ?_ ?_ ?_ ?_
          · exact ⟨by omega, by rw [hr, there_drop hg, decide_eq_false (fun c => absurd c.2 h3)]; rfl⟩
          · omega
          · refine ⟨?_, ?_, ?_, ?_, trivial⟩ <;> rfl
          · exact ⟨_, (by repeat first | with_reducible exact .nil _ | with_reducible exact .here _ _ | with_reducible exact Take.self _ | with_reducible apply Take.cons | with_reducible apply Out.there | with_reducible apply Take.skip | with_reducible exact Take.pre _ _ | with_reducible apply Out.app)⟩
        · try simp only [decide_eq_true_eq, decide_eq_false_iff_not, Bool.not_eq_true', Bool.not_eq_false', beq_iff_eq, bne_iff_ne, beq_eq_false_iff_ne, bne_eq_false_iff_eq, Int.not_lt, Int.not_le, gt_iff_lt, ge_iff_le, ne_eq] at h3
          refine X_skip ?_
          refine thenX_normal ?_
          refine X_seq ?_
          refine X_region ?_
          refine XL_det .no (D_pure rfl) rfl ?_
          refine XL_then ?_
          refine X_seq ?_
          refine X_region ?_
          refine XL_det .no (D_pure rfl) rfl ?_
          refine XL_then ?_
          refine X_seqj (α := Int × Bool) (fun z => scan k (l.l.drop (i + 1)) = z) (fun z => [(8, .int .i64 z.1), (9, .bool z.2), (0, .slice l.oad l.l.length l.c), (1, .int .i64 k), (2, .int .i64 t), (7, .int .i64 (i : Int))]) (fun z => [K]) ?_ ?_
          · skip
            refine X_seq ?_
            refine X_region ?_
            refine XL_det .no (D_pure rfl) rfl ?_
            refine XL_det .no (D_add rfl rfl (by omega) (by omega)) rfl ?_
            refine XL_det .no (D_pure rfl) rfl ?_
            refine XL_then ?_
            refine X_block ?_
            refine X_loop (α := Nat × Int × Bool) (fun ⟨m, en, an⟩ => Sc k l.l i m en an) (fun ⟨m, en, an⟩ => [(8, .int .i64 en), (9, .bool an), (10, .int .i64 (m : Int)), (0, .slice l.oad l.l.length l.c), (1, .int .i64 k), (2, .int .i64 t), (7, .int .i64 (i : Int))]) (fun ⟨m, en, an⟩ => [K]) (fun ⟨m, en, an⟩ => l.l.length - m) (i + 1, 2147483648, false) ?_ (by refine ⟨?_, ?_, ?_, ?_, ?_, ?_, ?_, trivial⟩ <;> rfl) (by repeat first | with_reducible exact .nil _ | with_reducible exact .here _ _ | with_reducible exact Take.self _ | with_reducible apply Take.cons | with_reducible apply Out.there | with_reducible apply Take.skip | with_reducible exact Take.pre _ _ | with_reducible apply Out.app) ?_
            · exact Sc.init (by omega)
            · rintro ⟨m, en, an⟩ hsc
              dsimp only
              have hle := hsc.le
              refine X_seq ?_
              refine X_seq ?_
              refine X_region ?_
              refine XL_det .no (D_pure rfl) rfl ?_
              refine XL_det .no (D_pure rfl) rfl ?_
              refine XL_det .no (D_len rfl rfl slc_26) rfl ?_
              refine XL_det .no (D_pure rfl) rfl ?_
              refine XL_det .no (D_pure rfl) rfl ?_
              refine XL_split (t := 38) rfl (fun h4 => ?_) (fun h4 => ?_)
              · try simp only [decide_eq_true_eq, decide_eq_false_iff_not, Bool.not_eq_true', Bool.not_eq_false', beq_iff_eq, bne_iff_ne, beq_eq_false_iff_ne, bne_eq_false_iff_eq, Int.not_lt, Int.not_le, gt_iff_lt, ge_iff_le, ne_eq] at h4
                refine XL_det (.yes 38 rfl rfl rfl) (D_pure rfl) rfl ?_
                refine XL_det (.yes 38 rfl rfl rfl) (D_pure rfl) rfl ?_
                refine XL_det .no (D_pure rfl) rfl ?_
                refine XL_det .no (D_pure rfl) rfl ?_
                refine XL_split (t := 42) rfl (fun h5 => ?_) (fun h5 => ?_)
                · try simp only [decide_eq_true_eq, decide_eq_false_iff_not, Bool.not_eq_true', Bool.not_eq_false', beq_iff_eq, bne_iff_ne, beq_eq_false_iff_ne, bne_eq_false_iff_eq, Int.not_lt, Int.not_le, gt_iff_lt, ge_iff_le, ne_eq] at h5
                  refine XL_det (.yes 42 rfl rfl rfl) (D_pure rfl) rfl ?_
                  refine XL_det (.yes 42 rfl rfl rfl) (D_pure rfl) rfl ?_
                  refine XL_det .no (D_pure rfl) rfl ?_
                  refine XL_then ?_
                  refine X_cond rfl (fun h6 => ?_) (fun h6 => ?_)
                  · try simp only [decide_eq_true_eq, decide_eq_false_iff_not, Bool.not_eq_true', Bool.not_eq_false', beq_iff_eq, bne_iff_ne, beq_eq_false_iff_ne, bne_eq_false_iff_eq, Int.not_lt, Int.not_le, gt_iff_lt, ge_iff_le, ne_eq] at h6
                    obtain ⟨e2, hm⟩ : ∃ e, l.l[m]? = some e := ⟨_, List.getElem?_eq_getElem (by omega)⟩
                    have hs2 : Sc k l.l i m 2147483648 false := by rw [h5, h6] at hsc; exact hsc
                    have ht2 := hev e2 (List.mem_of_getElem? hm)
                    refine X_skip ?_
                    refine thenX_normal ?_
                    refine X_seq ?_
                    refine X_block ?_
                    refine X_seq ?_
                    refine X_seq ?_
                    refine X_region ?_
                    refine XL_det .no (D_pure rfl) rfl ?_
                    refine XL_det .no (D_pure rfl) rfl ?_
                    refine XL_det .no (D_idxSo rfl rfl slc_26 (l).nil0 rfl (by omega) rfl) rfl ?_
                    refine XL_det .no (D_fldA rfl fld_38_2 rfl) rfl ?_
                    refine XL_det .no (D_ela (enc := encE) (sz := 4) (i := m) (k := 2) (fun _ => rfl) rfl (by repeat first | with_reducible exact .here _ _ | with_reducible apply Out.there | with_reducible apply Out.app) hl tk_3 hm rfl) rfl ?_
                    refine XL_det .no (D_pure rfl) rfl ?_
                    refine XL_det .no (D_pure rfl) rfl ?_
                    refine XL_det .no (D_pure rfl) rfl ?_
                    refine XL_split (t := 55) rfl (fun h7 => ?_) (fun h7 => ?_)
                    · try simp only [decide_eq_true_eq, decide_eq_false_iff_not, Bool.not_eq_true', Bool.not_eq_false', beq_iff_eq, bne_iff_ne, beq_eq_false_iff_ne, bne_eq_false_iff_eq, Int.not_lt, Int.not_le, gt_iff_lt, ge_iff_le, ne_eq] at h7
                      refine XL_det (.yes 55 rfl rfl rfl) (D_pure rfl) rfl ?_
                      refine XL_det (.yes 55 rfl rfl rfl) (D_pure rfl) rfl ?_
                      refine XL_det (.yes 55 rfl rfl rfl) (D_idxSo rfl rfl slc_26 (l).nil0 rfl (by omega) rfl) rfl ?_
                      refine XL_det (.yes 55 rfl rfl rfl) (D_fldA rfl fld_38_1 rfl) rfl ?_
                      refine XL_det (.yes 55 rfl rfl rfl) (D_ela (enc := encE) (sz := 4) (i := m) (k := 1) (fun _ => rfl) rfl (by repeat first | with_reducible exact .here _ _ | with_reducible apply Out.there | with_reducible apply Out.app) hl tk_36 hm rfl) rfl ?_
                      refine XL_det (.yes 55 rfl rfl rfl) (D_pure rfl) rfl ?_
                      refine XL_det .no (D_pure rfl) rfl ?_
                      refine XL_then ?_
                      refine X_cond rfl (fun h8 => ?_) (fun h8 => ?_)
                      · try simp only [decide_eq_true_eq, decide_eq_false_iff_not, Bool.not_eq_true', Bool.not_eq_false', beq_iff_eq, bne_iff_ne, beq_eq_false_iff_ne, bne_eq_false_iff_eq, Int.not_lt, Int.not_le, gt_iff_lt, ge_iff_le, ne_eq] at h8
                        refine X_region ?_
                        refine XL_det .no (D_pure rfl) rfl ?_
                        refine XL_det .no (D_pure rfl) rfl ?_
                        refine XL_det .no (D_idxSo rfl rfl slc_26 (l).nil0 rfl (by omega) rfl) rfl ?_
                        refine XL_det .no (D_fldA rfl fld_38_0 rfl) rfl ?_
                        refine XL_det .no (D_ela (enc := encE) (sz := 4) (i := m) (k := 0) (fun _ => rfl) rfl (by repeat first | with_reducible exact .here _ _ | with_reducible apply Out.there | with_reducible apply Out.app) hl tk_3 hm rfl) rfl ?_
                        refine XL_det .no (D_pure rfl) rfl ?_
                        refine XL_then ?_
                        refine X_region ?_
                        refine XL_det .no (D_pure rfl) rfl ?_
                        refine XL_det .no (D_pure rfl) rfl ?_
                        refine XL_det .no (D_idxSo rfl rfl slc_26 (l).nil0 rfl (by omega) rfl) rfl ?_
                        refine XL_det .no (D_fldA rfl fld_38_2 rfl) rfl ?_
                        refine XL_det .no (D_ela (enc := encE) (sz := 4) (i := m) (k := 2) (fun _ => rfl) rfl (by repeat first | with_reducible exact .here _ _ | with_reducible apply Out.there | with_reducible apply Out.app) hl tk_3 hm rfl) rfl ?_
                        refine XL_det .no (D_pure rfl) rfl ?_
                        refine XL_det .no (D_pure rfl) rfl ?_
                        refine XL_det .no (D_pure rfl) rfl ?_
                        refine XL_split (t := 75) rfl (fun h9 => ?_) (fun h9 => ?_)
                        · try simp only [decide_eq_true_eq, decide_eq_false_iff_not, Bool.not_eq_true', Bool.not_eq_false', beq_iff_eq, bne_iff_ne, beq_eq_false_iff_ne, bne_eq_false_iff_eq, Int.not_lt, Int.not_le, gt_iff_lt, ge_iff_le, ne_eq] at h9
                          refine XL_det (.yes 75 rfl rfl rfl) (D_pure rfl) rfl ?_
                          refine XL_det (.yes 75 rfl rfl rfl) (D_pure rfl) rfl ?_
                          refine XL_det (.yes 75 rfl rfl rfl) (D_idxSo rfl rfl slc_26 (l).nil0 rfl (by omega) rfl) rfl ?_
                          refine XL_det (.yes 75 rfl rfl rfl) (D_fldA rfl fld_38_1 rfl) rfl ?_
                          refine XL_det (.yes 75 rfl rfl rfl) (D_ela (enc := encE) (sz := 4) (i := m) (k := 1) (fun _ => rfl) rfl (by repeat first | with_reducible exact .here _ _ | with_reducible apply Out.there | with_reducible apply Out.app) hl tk_36 hm rfl) rfl ?_
                          refine XL_det (.yes 75 rfl rfl rfl) (D_pure rfl) rfl ?_
                          refine XL_det .no (D_pure rfl) rfl ?_
                          refine XL_det .no (D_pure rfl) rfl ?_
                          refine XL_nil ?_
                          refine inBlk_normal ?_
                          refine thenX_normal ?_
                          refine X_region ?_
                          refine XL_det .no (D_pure rfl) rfl ?_
                          refine XL_det .no (D_add rfl rfl (by omega) (by omega)) rfl ?_
                          refine XL_det .no (D_pure rfl) rfl ?_
                          refine XL_nil ?_
                          refine loopQ_next (m + 1, e2.tick, (e2.kind == 2)) ?_ ?_ ?_ ?_
                          · (try dsimp only); rw [show (e2.kind == 2) = false by simp; omega]; exact hs2.over hm ⟨h7, h8⟩ (by omega)
                          · (try dsimp only); omega
                          · refine ⟨?_, ?_, ?_, ?_, ?_, ?_, ?_, trivial⟩ <;> rfl
                          · (try dsimp only); exact ⟨_, (by repeat first | with_reducible exact .nil _ | with_reducible exact .here _ _ | with_reducible exact Take.self _ | with_reducible apply Take.cons | with_reducible apply Out.there | with_reducible apply Take.skip | with_reducible exact Take.pre _ _ | with_reducible apply Out.app)⟩
                        · try simp only [decide_eq_true_eq, decide_eq_false_iff_not, Bool.not_eq_true', Bool.not_eq_false', beq_iff_eq, bne_iff_ne, beq_eq_false_iff_ne, bne_eq_false_iff_eq, Int.not_lt, Int.not_le, gt_iff_lt, ge_iff_le, ne_eq] at h9
                          exact absurd h7 h9
                      · try simp only [decide_eq_true_eq, decide_eq_false_iff_not, Bool.not_eq_true', Bool.not_eq_false', beq_iff_eq, bne_iff_ne, beq_eq_false_iff_ne, bne_eq_false_iff_eq, Int.not_lt, Int.not_le, gt_iff_lt, ge_iff_le, ne_eq] at h8
                        refine X_skip ?_
                        refine thenX_normal ?_
                        refine X_region ?_
                        refine XL_det .no (D_pure rfl) rfl ?_
                        refine XL_det .no (D_pure rfl) rfl ?_
                        refine XL_det .no (D_idxSo rfl rfl slc_26 (l).nil0 rfl (by omega) rfl) rfl ?_
                        refine XL_det .no (D_fldA rfl fld_38_2 rfl) rfl ?_
                        refine XL_det .no (D_ela (enc := encE) (sz := 4) (i := m) (k := 2) (fun _ => rfl) rfl (by repeat first | with_reducible exact .here _ _ | with_reducible apply Out.there | with_reducible apply Out.app) hl tk_3 hm rfl) rfl ?_
                        refine XL_det .no (D_pure rfl) rfl ?_
                        refine XL_det .no (D_pure rfl) rfl ?_
                        refine XL_det .no (D_pure rfl) rfl ?_
                        refine XL_split (t := 75) rfl (fun h10 => ?_) (fun h10 => ?_)
                        · try simp only [decide_eq_true_eq, decide_eq_false_iff_not, Bool.not_eq_true', Bool.not_eq_false', beq_iff_eq, bne_iff_ne, beq_eq_false_iff_ne, bne_eq_false_iff_eq, Int.not_lt, Int.not_le, gt_iff_lt, ge_iff_le, ne_eq] at h10
                          refine XL_det (.yes 75 rfl rfl rfl) (D_pure rfl) rfl ?_
                          refine XL_det (.yes 75 rfl rfl rfl) (D_pure rfl) rfl ?_
                          refine XL_det (.yes 75 rfl rfl rfl) (D_idxSo rfl rfl slc_26 (l).nil0 rfl (by omega) rfl) rfl ?_
                          refine XL_det (.yes 75 rfl rfl rfl) (D_fldA rfl fld_38_1 rfl) rfl ?_
                          refine XL_det (.yes 75 rfl rfl rfl) (D_ela (enc := encE) (sz := 4) (i := m) (k := 1) (fun _ => rfl) rfl (by repeat first | with_reducible exact .here _ _ | with_reducible apply Out.there | with_reducible apply Out.app) hl tk_36 hm rfl) rfl ?_
                          refine XL_det (.yes 75 rfl rfl rfl) (D_pure rfl) rfl ?_
                          refine XL_det .no (D_pure rfl) rfl ?_
                          refine XL_det .no (D_pure rfl) rfl ?_
                          refine XL_nil ?_
                          refine inBlk_normal ?_
                          refine thenX_normal ?_
                          refine X_region ?_
                          refine XL_det .no (D_pure rfl) rfl ?_
                          refine XL_det .no (D_add rfl rfl (by omega) (by omega)) rfl ?_
                          refine XL_det .no (D_pure rfl) rfl ?_
                          refine XL_nil ?_
                          refine loopQ_next (m + 1, en, (e2.kind == 2)) ?_ ?_ ?_ ?_
                          · (try dsimp only); rw [h5]; exact hs2.any hm h7 h8
                          · (try dsimp only); omega
                          · refine ⟨?_, ?_, ?_, ?_, ?_, ?_, ?_, trivial⟩ <;> rfl
                          · (try dsimp only); exact ⟨_, (by repeat first | with_reducible exact .nil _ | with_reducible exact .here _ _ | with_reducible exact Take.self _ | with_reducible apply Take.cons | with_reducible apply Out.there | with_reducible apply Take.skip | with_reducible exact Take.pre _ _ | with_reducible apply Out.app)⟩
                        · try simp only [decide_eq_true_eq, decide_eq_false_iff_not, Bool.not_eq_true', Bool.not_eq_false', beq_iff_eq, bne_iff_ne, beq_eq_false_iff_ne, bne_eq_false_iff_eq, Int.not_lt, Int.not_le, gt_iff_lt, ge_iff_le, ne_eq] at h10
                          exact absurd h7 h10
                    · try simp only [decide_eq_true_eq, decide_eq_false_iff_not, Bool.not_eq_true', Bool.not_eq_false', beq_iff_eq, bne_iff_ne, beq_eq_false_iff_ne, bne_eq_false_iff_eq, Int.not_lt, Int.not_le, gt_iff_lt, ge_iff_le, ne_eq] at h7
                      refine XL_skip 55 rfl rfl rfl rfl rfl ?_
                      refine XL_skip 55 rfl rfl rfl rfl rfl ?_
                      refine XL_skip 55 rfl rfl rfl rfl rfl ?_
                      refine XL_skip 55 rfl rfl rfl rfl rfl ?_
                      refine XL_skip 55 rfl rfl rfl rfl rfl ?_
                      refine XL_skip 55 rfl rfl rfl rfl rfl ?_
                      refine XL_det .no (D_pure rfl) rfl ?_
                      refine XL_then ?_
                      refine X_cond_f rfl rfl ?_
                      refine X_skip ?_
                      refine thenX_normal ?_
                      refine X_region ?_
                      refine XL_det .no (D_pure rfl) rfl ?_
                      refine XL_det .no (D_pure rfl) rfl ?_
                      refine XL_det .no (D_idxSo rfl rfl slc_26 (l).nil0 rfl (by omega) rfl) rfl ?_
                      refine XL_det .no (D_fldA rfl fld_38_2 rfl) rfl ?_
                      refine XL_det .no (D_ela (enc := encE) (sz := 4) (i := m) (k := 2) (fun _ => rfl) rfl (by repeat first | with_reducible exact .here _ _ | with_reducible apply Out.there | with_reducible apply Out.app) hl tk_3 hm rfl) rfl ?_
                      refine XL_det .no (D_pure rfl) rfl ?_
                      refine XL_det .no (D_pure rfl) rfl ?_
                      refine XL_det .no (D_pure rfl) rfl ?_
                      refine XL_split (t := 75) rfl (fun h11 => ?_) (fun h11 => ?_)
                      · try simp only [decide_eq_true_eq, decide_eq_false_iff_not, Bool.not_eq_true', Bool.not_eq_false', beq_iff_eq, bne_iff_ne, beq_eq_false_iff_ne, bne_eq_false_iff_eq, Int.not_lt, Int.not_le, gt_iff_lt, ge_iff_le, ne_eq] at h11
                        exact absurd h11 h7
                      · try simp only [decide_eq_true_eq, decide_eq_false_iff_not, Bool.not_eq_true', Bool.not_eq_false', beq_iff_eq, bne_iff_ne, beq_eq_false_iff_ne, bne_eq_false_iff_eq, Int.not_lt, Int.not_le, gt_iff_lt, ge_iff_le, ne_eq] at h11
                        refine XL_skip 75 rfl rfl rfl rfl rfl ?_
                        refine XL_skip 75 rfl rfl rfl rfl rfl ?_
                        refine XL_skip 75 rfl rfl rfl rfl rfl ?_
                        refine XL_skip 75 rfl rfl rfl rfl rfl ?_
                        refine XL_skip 75 rfl rfl rfl rfl rfl ?_
                        refine XL_skip 75 rfl rfl rfl rfl rfl ?_
                        refine XL_det .no (D_pure rfl) rfl ?_
                        refine XL_det .no (D_pure rfl) rfl ?_
                        refine XL_nil ?_
                        refine inBlk_normal ?_
                        refine thenX_normal ?_
                        refine X_region ?_
                        refine XL_det .no (D_pure rfl) rfl ?_
                        refine XL_det .no (D_add rfl rfl (by omega) (by omega)) rfl ?_
                        refine XL_det .no (D_pure rfl) rfl ?_
                        refine XL_nil ?_
                        refine loopQ_next (m + 1, en, false) ?_ ?_ ?_ ?_
                        · (try dsimp only); rw [h5]; exact hs2.other hm (fun c => h7 c.1) (fun c => h7 c.1)
                        · (try dsimp only); omega
                        · refine ⟨?_, ?_, ?_, ?_, ?_, ?_, ?_, trivial⟩ <;> rfl
                        · (try dsimp only); exact ⟨_, (by repeat first | with_reducible exact .nil _ | with_reducible exact .here _ _ | with_reducible exact Take.self _ | with_reducible apply Take.cons | with_reducible apply Out.there | with_reducible apply Take.skip | with_reducible exact Take.pre _ _ | with_reducible apply Out.app)⟩
                  · try simp only [decide_eq_true_eq, decide_eq_false_iff_not, Bool.not_eq_true', Bool.not_eq_false', beq_iff_eq, bne_iff_ne, beq_eq_false_iff_ne, bne_eq_false_iff_eq, Int.not_lt, Int.not_le, gt_iff_lt, ge_iff_le, ne_eq] at h6
                    refine X_exit ?_
                    refine thenX_exit ?_
                    refine loopQ_exit ?_
                    refine inBlk_here ?_
                    refine joinQ_normal (en, an) ?_ ?_ ?_
                    · exact hsc.fin (.inr (.inr h6))
                    · refine ⟨?_, ?_, ?_, ?_, ?_, ?_, trivial⟩ <;> rfl
                    · exact ⟨_, (by repeat first | with_reducible exact .nil _ | with_reducible exact .here _ _ | with_reducible exact Take.self _ | with_reducible apply Take.cons | with_reducible apply Out.there | with_reducible apply Take.skip | with_reducible exact Take.pre _ _ | with_reducible apply Out.app)⟩
                · try simp only [decide_eq_true_eq, decide_eq_false_iff_not, Bool.not_eq_true', Bool.not_eq_false', beq_iff_eq, bne_iff_ne, beq_eq_false_iff_ne, bne_eq_false_iff_eq, Int.not_lt, Int.not_le, gt_iff_lt, ge_iff_le, ne_eq] at h5
                  refine XL_skip 42 rfl rfl rfl rfl rfl ?_
                  refine XL_skip 42 rfl rfl rfl rfl rfl ?_
                  refine XL_det .no (D_pure rfl) rfl ?_
                  refine XL_then ?_
                  refine X_cond_f rfl rfl ?_
                  refine X_exit ?_
                  refine thenX_exit ?_
                  refine loopQ_exit ?_
                  refine inBlk_here ?_
                  refine joinQ_normal (en, an) ?_ ?_ ?_
                  · exact hsc.fin (.inr (.inl h5))
                  · refine ⟨?_, ?_, ?_, ?_, ?_, ?_, trivial⟩ <;> rfl
                  · exact ⟨_, (by repeat first | with_reducible exact .nil _ | with_reducible exact .here _ _ | with_reducible exact Take.self _ | with_reducible apply Take.cons | with_reducible apply Out.there | with_reducible apply Take.skip | with_reducible exact Take.pre _ _ | with_reducible apply Out.app)⟩
              · try simp only [decide_eq_true_eq, decide_eq_false_iff_not, Bool.not_eq_true', Bool.not_eq_false', beq_iff_eq, bne_iff_ne, beq_eq_false_iff_ne, bne_eq_false_iff_eq, Int.not_lt, Int.not_le, gt_iff_lt, ge_iff_le, ne_eq] at h4
                refine XL_skip 38 rfl rfl rfl rfl rfl ?_
                refine XL_skip 38 rfl rfl rfl rfl rfl ?_
                refine XL_det .no (D_pure rfl) rfl ?_
                refine XL_det .no (D_pure rfl) rfl ?_
                refine XL_skip 42 rfl rfl rfl rfl rfl ?_
                refine XL_skip 42 rfl rfl rfl rfl rfl ?_
                refine XL_det .no (D_pure rfl) rfl ?_
                refine XL_then ?_
                refine X_cond_f rfl rfl ?_
                refine X_exit ?_
                refine thenX_exit ?_
                refine loopQ_exit ?_
                refine inBlk_here ?_
                refine joinQ_normal (en, an) ?_ ?_ ?_
                · exact hsc.fin (.inl (by omega))
                · refine ⟨?_, ?_, ?_, ?_, ?_, ?_, trivial⟩ <;> rfl
                · exact ⟨_, (by repeat first | with_reducible exact .nil _ | with_reducible exact .here _ _ | with_reducible exact Take.self _ | with_reducible apply Take.cons | with_reducible apply Out.there | with_reducible apply Take.skip | with_reducible exact Take.pre _ _ | with_reducible apply Out.app)⟩
          · rintro ⟨en, an⟩ hz
            refine X_seq ?_
            refine X_region ?_
            refine XL_det .no (D_pure rfl) rfl ?_
            refine XL_det .no (D_pure rfl) rfl ?_
            refine XL_det .no (D_pure rfl) rfl ?_
            refine XL_split (t := 85) rfl (fun h12 => ?_) (fun h12 => ?_)
            · try simp only [decide_eq_true_eq, decide_eq_false_iff_not, Bool.not_eq_true', Bool.not_eq_false', beq_iff_eq, bne_iff_ne, beq_eq_false_iff_ne, bne_eq_false_iff_eq, Int.not_lt, Int.not_le, gt_iff_lt, ge_iff_le, ne_eq] at h12
              refine XL_det (.yes 85 rfl rfl rfl) (D_pure rfl) rfl ?_
              refine XL_det (.yes 85 rfl rfl rfl) (D_pure rfl) rfl ?_
              refine XL_det (.yes 85 rfl rfl rfl) (D_pure rfl) rfl ?_
              refine XL_det (.yes 85 rfl rfl rfl) (D_idxSo rfl rfl slc_26 (l).nil0 rfl (by omega) rfl) rfl ?_
              refine XL_det (.yes 85 rfl rfl rfl) (D_fldA rfl fld_38_0 rfl) rfl ?_
              refine XL_det (.yes 85 rfl rfl rfl) (D_ela (enc := encE) (sz := 4) (i := i) (k := 0) (fun _ => rfl) rfl (by repeat first | with_reducible exact .here _ _ | with_reducible apply Out.there | with_reducible apply Out.app) hl tk_3 hg rfl) rfl ?_
              refine XL_det (.yes 85 rfl rfl rfl) (D_pure rfl) rfl ?_
              refine XL_det .no (D_pure rfl) rfl ?_
              refine XL_det .no (D_pure rfl) rfl ?_
              refine XL_split (t := 94) rfl (fun h13 => ?_) (fun h13 => ?_)
              · try simp only [decide_eq_true_eq, decide_eq_false_iff_not, Bool.not_eq_true', Bool.not_eq_false', beq_iff_eq, bne_iff_ne, beq_eq_false_iff_ne, bne_eq_false_iff_eq, Int.not_lt, Int.not_le, gt_iff_lt, ge_iff_le, ne_eq] at h13
                refine XL_det (.yes 94 rfl rfl rfl) (D_pure rfl) rfl ?_
                refine XL_det (.yes 94 rfl rfl rfl) (D_pure rfl) rfl ?_
                refine XL_det (.yes 94 rfl rfl rfl) (D_pure rfl) rfl ?_
                refine XL_det .no (D_pure rfl) rfl ?_
                refine XL_then ?_
                refine X_cond rfl (fun h14 => ?_) (fun h14 => ?_)
                · try simp only [decide_eq_true_eq, decide_eq_false_iff_not, Bool.not_eq_true', Bool.not_eq_false', beq_iff_eq, bne_iff_ne, beq_eq_false_iff_ne, bne_eq_false_iff_eq, Int.not_lt, Int.not_le, gt_iff_lt, ge_iff_le, ne_eq] at h14
                  refine X_seq ?_
                  refine X_region ?_
                  refine XL_det .no (D_pure rfl) rfl ?_
                  refine XL_then ?_
                  refine X_ret ?_
                  refine inBlk_ret ?_
                  refine thenX_ret ?_
                  refine loopQ_ret ?_
                  refine inBlk_ret ?_
                  refine thenX_ret ?_
                  refine ret_ok (.nil _) (res_tmp rfl rfl) ?_
                  exact ⟨_, ⟨by rw [hr, there_drop hg, hz, decide_eq_true (show e.a = k ∧ e.kind = 2 from ⟨by assumption, by assumption⟩), h12, within, decide_eq_true (show e.tick ≤ t by omega), decide_eq_true (show t < en by omega)]; rfl, rfl⟩, _, (by repeat first | with_reducible exact .nil _ | with_reducible exact .here _ _ | with_reducible exact Take.self _ | with_reducible apply Take.cons | with_reducible apply Out.there | with_reducible apply Take.skip | with_reducible exact Take.pre _ _ | with_reducible apply Out.app)⟩
                · try simp only [decide_eq_true_eq, decide_eq_false_iff_not, Bool.not_eq_true', Bool.not_eq_false', beq_iff_eq, bne_iff_ne, beq_eq_false_iff_ne, bne_eq_false_iff_eq, Int.not_lt, Int.not_le, gt_iff_lt, ge_iff_le, ne_eq] at h14
                  refine X_skip ?_
                  refine inBlk_normal ?_
                  refine thenX_normal ?_
                  refine X_region ?_
                  refine XL_det .no (D_pure rfl) rfl ?_
                  refine XL_det .no (D_add rfl rfl (by omega) (by omega)) rfl ?_
                  refine XL_det .no (D_pure rfl) rfl ?_
                  refine XL_nil ?_
                  refine loopQ_next (i + 1) ?_ ?_ ?_ ?_
                  · exact ⟨by omega, by rw [hr, there_drop hg, hz, within, decide_eq_false (show ¬ t < en by omega), Bool.and_false, Bool.and_false, Bool.false_or]⟩
                  · omega
                  · refine ⟨?_, ?_, ?_, ?_, trivial⟩ <;> rfl
                  · exact ⟨_, (by repeat first | with_reducible exact .nil _ | with_reducible exact .here _ _ | with_reducible exact Take.self _ | with_reducible apply Take.cons | with_reducible apply Out.there | with_reducible apply Take.skip | with_reducible exact Take.pre _ _ | with_reducible apply Out.app)⟩
              · try simp only [decide_eq_true_eq, decide_eq_false_iff_not, Bool.not_eq_true', Bool.not_eq_false', beq_iff_eq, bne_iff_ne, beq_eq_false_iff_ne, bne_eq_false_iff_eq, Int.not_lt, Int.not_le, gt_iff_lt, ge_iff_le, ne_eq] at h13
                refine XL_skip 94 rfl rfl rfl rfl rfl ?_
                refine XL_skip 94 rfl rfl rfl rfl rfl ?_
                refine XL_skip 94 rfl rfl rfl rfl rfl ?_
                refine XL_det .no (D_pure rfl) rfl ?_
                refine XL_then ?_
                refine X_cond_f rfl rfl ?_
                refine X_skip ?_
                refine inBlk_normal ?_
                refine thenX_normal ?_
                refine X_region ?_
                refine XL_det .no (D_pure rfl) rfl ?_
                refine XL_det .no (D_add rfl rfl (by omega) (by omega)) rfl ?_
                refine XL_det .no (D_pure rfl) rfl ?_
                refine XL_nil ?_
                refine loopQ_next (i + 1) ?_ ?_ ?_ ?_
                · exact ⟨by omega, by rw [hr, there_drop hg, hz, within, decide_eq_false (show ¬ e.tick ≤ t by omega), Bool.false_and, Bool.and_false, Bool.false_or]⟩
                · omega
                · refine ⟨?_, ?_, ?_, ?_, trivial⟩ <;> rfl
                · exact ⟨_, (by repeat first | with_reducible exact .nil _ | with_reducible exact .here _ _ | with_reducible exact Take.self _ | with_reducible apply Take.cons | with_reducible apply Out.there | with_reducible apply Take.skip | with_reducible exact Take.pre _ _ | with_reducible apply Out.app)⟩
            · try simp only [decide_eq_true_eq, decide_eq_false_iff_not, Bool.not_eq_true', Bool.not_eq_false', beq_iff_eq, bne_iff_ne, beq_eq_false_iff_ne, bne_eq_false_iff_eq, Int.not_lt, Int.not_le, gt_iff_lt, ge_iff_le, ne_eq] at h12
              refine XL_skip 85 rfl rfl rfl rfl rfl ?_
              refine XL_skip 85 rfl rfl rfl rfl rfl ?_
              refine XL_skip 85 rfl rfl rfl rfl rfl ?_
              refine XL_skip 85 rfl rfl rfl rfl rfl ?_
              refine XL_skip 85 rfl rfl rfl rfl rfl ?_
              refine XL_skip 85 rfl rfl rfl rfl rfl ?_
              refine XL_skip 85 rfl rfl rfl rfl rfl ?_
              refine XL_det .no (D_pure rfl) rfl ?_
              refine XL_det .no (D_pure rfl) rfl ?_
              refine XL_skip 94 rfl rfl rfl rfl rfl ?_
              refine XL_skip 94 rfl rfl rfl rfl rfl ?_
              refine XL_skip 94 rfl rfl rfl rfl rfl ?_
              refine XL_det .no (D_pure rfl) rfl ?_
              refine XL_then ?_
              refine X_cond_f rfl rfl ?_
              refine X_skip ?_
              refine inBlk_normal ?_
              refine thenX_normal ?_
              refine X_region ?_
              refine XL_det .no (D_pure rfl) rfl ?_
              refine XL_det .no (D_add rfl rfl (by omega) (by omega)) rfl ?_
              refine XL_det .no (D_pure rfl) rfl ?_
              refine XL_nil ?_
              refine loopQ_next (i + 1) ?_ ?_ ?_ ?_
              · exact ⟨by omega, by rw [hr, there_drop hg, hz, h12]; simp⟩
              · omega
              · refine ⟨?_, ?_, ?_, ?_, trivial⟩ <;> rfl
              · exact ⟨_, (by repeat first | with_reducible exact .nil _ | with_reducible exact .here _ _ | with_reducible exact Take.self _ | with_reducible apply Take.cons | with_reducible apply Out.there | with_reducible apply Take.skip | with_reducible exact Take.pre _ _ | with_reducible apply Out.app)⟩
    · try simp only [decide_eq_true_eq, decide_eq_false_iff_not, Bool.not_eq_true', Bool.not_eq_false', beq_iff_eq, bne_iff_ne, beq_eq_false_iff_ne, bne_eq_false_iff_eq, Int.not_lt, Int.not_le, gt_iff_lt, ge_iff_le, ne_eq] at h1
      refine X_exit ?_
      refine thenX_exit ?_
      refine loopQ_exit ?_
      refine inBlk_here ?_
      refine thenX_normal ?_
      refine X_seq ?_
      refine X_region ?_
      refine XL_det .no (D_pure rfl) rfl ?_
      refine XL_then ?_
      refine X_ret ?_
      refine ret_ok (.nil _) (res_tmp rfl rfl) ?_
      exact ⟨_, ⟨by rw [hr, List.drop_of_length_le (by omega)]; rfl, rfl⟩, _, (by repeat first | with_reducible exact .nil _ | with_reducible exact .here _ _ | with_reducible exact Take.self _ | with_reducible apply Take.cons | with_reducible apply Out.there | with_reducible apply Take.skip | with_reducible exact Take.pre _ _ | with_reducible apply Out.app)⟩

end Go.Proofs.YtjcpggoodbkedaaDoor
end

section
namespace Go.Proofs.YtjcpggoodbkedaaDoor
open Go Go.Sl
set_option linter.unusedVariables false
set_option linter.unusedSimpArgs false
set_option maxRecDepth 4000
variable {B : Nat} {K : Asrt B}


def rg (n : Nat) (g : Nat → UInt8) : List UInt8 := (List.range n).map g
theorem rg_len (n : Nat) (g : Nat → UInt8) : (rg n g).length = n := by unfold rg; simp
theorem rg_ext {n : Nat} {g h : Nat → UInt8} (e : ∀ j, j < n → g j = h j) : rg n g = rg n h := by
  unfold rg; apply List.map_congr_left; intro j hj; exact e j (List.mem_range.1 hj)
theorem rg_set {n i : Nat} {g : Nat → UInt8} {y : UInt8} : (rg n g).set i y = rg n (fun j => if j = i then y else g j) := by
  apply List.ext_getElem
  · unfold rg; simp
  · intro j h1 h2
    rw [List.getElem_set]
    by_cases e : i = j
    · subst e; simp [rg]
    · rw [if_neg e]; simp [rg]; exact fun h => absurd h.symm e
theorem rg_rep (n : Nat) : List.replicate n (0 : UInt8) = rg n (fun _ => 0) := by
  apply List.ext_getElem
  · simp [rg]
  · intro j h1 h2; simp [rg]
theorem rg_of {c : Arr UInt8} {n : Nat} (h : c.l = List.replicate n 0) : c.l = rg c.l.length (fun j => if j < 0 then 32 else 0) := by
  rw [h, List.length_replicate, rg_rep]; exact rg_ext fun j _ => by simp
theorem sp_set (n i : Nat) : (rg n (fun j => if j < i then 32 else 0)).set i 32 = rg n (fun j => if j < i + 1 then 32 else 0) := by
  rw [rg_set]
  apply rg_ext; intro j _
  by_cases e : j = i
  · rw [if_pos e, if_pos (by omega)]
  · rw [if_neg e]
    by_cases h : j < i
    · rw [if_pos h, if_pos (by omega)]
    · rw [if_neg h, if_neg (by omega)]
def fillG (g : Nat → UInt8) (f fr to : Int) (j : Nat) : UInt8 := if 0 ≤ fr ∧ max fr f ≤ f + (j : Int) ∧ f + (j : Int) < to then 46 else g j
def fillU (g : Nat → UInt8) (f fr u : Int) (j : Nat) : UInt8 := if max fr f ≤ f + (j : Int) ∧ f + (j : Int) < u then 46 else g j
theorem fillU_0 (n : Nat) (g : Nat → UInt8) (f fr : Int) : rg n g = rg n (fillU g f fr (max fr f)) := rg_ext fun j _ => by unfold fillU; rw [if_neg (by omega)]
theorem fillU_s (n : Nat) (g : Nat → UInt8) {f fr u : Int} (h : max fr f ≤ u) : (rg n (fillU g f fr u)).set (u - f).toNat 46 = rg n (fillU g f fr (u + 1)) := by
  rw [rg_set]
  apply rg_ext; intro j _
  unfold fillU
  by_cases e : j = (u - f).toNat
  · rw [if_pos e, if_pos (by omega)]
  · rw [if_neg e]
    by_cases c : max fr f ≤ f + (j : Int) ∧ f + (j : Int) < u
    · rw [if_pos c, if_pos (by omega)]
    · rw [if_neg c, if_neg (by omega)]
theorem fillU_e {n : Nat} {g : Nat → UInt8} {f fr u to : Int} (h0 : 0 ≤ fr) (h1 : max fr f ≤ u) (h2 : u ≤ max (max fr f) to) (h : ¬ u < to ∨ ¬ u - f < (n : Int)) : rg n (fillU g f fr u) = rg n (fillG g f fr to) := rg_ext fun j hj => by
  unfold fillU fillG
  by_cases c : max fr f ≤ f + (j : Int) ∧ f + (j : Int) < u
  · rw [if_pos c, if_pos (by omega)]
  · rw [if_neg c, if_neg (by omega)]
theorem fillG_n {n : Nat} {g : Nat → UInt8} {f fr to : Int} (h0 : fr < 0) : rg n g = rg n (fillG g f fr to) := rg_ext fun j hj => by unfold fillG; rw [if_neg (by omega)]
def frm2 : Option Int → Int
  | none => -1
  | some f => f
def dotG (D : Int → Bool) (f : Int) (j : Nat) : UInt8 := if D (f + (j : Int)) then 46 else 32
def addD (D : Int → Bool) (o : Option Int) (to : Int) (t : Int) : Bool := D t || (match o with | some f => within f t to | none => false)
theorem dot_fill {n : Nat} {D : Int → Bool} {f to : Int} {o : Option Int} (ho : ∀ a, o = some a → 0 ≤ a) : rg n (fillG (dotG D f) f (frm2 o) to) = rg n (dotG (addD D o to) f) := rg_ext fun j hj => by
  unfold fillG dotG addD
  cases o with
  | none => rw [if_neg (by show ¬ (0 ≤ (-1 : Int) ∧ _); omega)]; simp
  | some a =>
    have h0 := ho a rfl
    show (if 0 ≤ a ∧ max a f ≤ f + (j : Int) ∧ f + (j : Int) < to then _ else _) = if (D (f + (j : Int)) || (decide (a ≤ f + (j : Int)) && decide (f + (j : Int) < to))) = true then _ else _
    by_cases c : a ≤ f + (j : Int) ∧ f + (j : Int) < to
    · rw [if_pos (by omega), if_pos (by simp [c.1, c.2])]
    · rw [if_neg (by omega)]
      have : (decide (a ≤ f + (j : Int)) && decide (f + (j : Int) < to)) = false := by simp; omega
      rw [this, Bool.or_false]
def tickG (L : List (Nat × Ev)) (k f : Int) (g : Nat → UInt8) (j : Nat) : UInt8 := if L.any (fun p => decide (p.2.a = k ∧ p.2.tick = f + (j : Int))) then 35 else g j
theorem tickG_s {n : Nat} {L : List (Nat × Ev)} {i : Nat} {p : Nat × Ev} {k f : Int} {g : Nat → UInt8} (h : L[i]? = some p) (hc : p.2.a = k) (h0 : f ≤ p.2.tick) : (rg n (tickG (L.take i) k f g)).set (p.2.tick - f).toNat 35 = rg n (tickG (L.take (i + 1)) k f g) := by
  rw [rg_set]
  apply rg_ext; intro j _
  unfold tickG
  rw [List.take_add_one, h, List.any_append]
  by_cases e : j = (p.2.tick - f).toNat
  · have : p.2.tick = f + (j : Int) := by omega
    rw [if_pos e, if_pos (by simp [hc, this])]
  · have e2 : (some p).toList.any (fun p => decide (p.2.a = k ∧ p.2.tick = f + (j : Int))) = false := by
      show (decide _ || false) = false
      rw [decide_eq_false (fun c => by have := c.2; omega)]; rfl
    rw [if_neg e, e2, Bool.or_false]
theorem tickG_n {n : Nat} {L : List (Nat × Ev)} {i : Nat} {p : Nat × Ev} {k f : Int} {g : Nat → UInt8} (h : L[i]? = some p) (hc : ¬ p.2.a = k ∨ p.2.tick < f ∨ ¬ p.2.tick - f < (n : Int)) : rg n (tickG (L.take i) k f g) = rg n (tickG (L.take (i + 1)) k f g) := by
  apply rg_ext; intro j hj
  unfold tickG
  rw [List.take_add_one, h, List.any_append]
  have e2 : (some p).toList.any (fun p => decide (p.2.a = k ∧ p.2.tick = f + (j : Int))) = false := by
    show (decide _ || false) = false
    rw [decide_eq_false (fun c => by have := c.1; have := c.2; omega)]; rfl
  rw [e2, Bool.or_false]
theorem any_runs (l : List Ev) (k t : Int) : ∀ n, (evL l 1 n).any (fun p => decide (p.2.a = k ∧ p.2.tick = t)) = runsL k t (l.take n)
  | 0 => rfl
  | n + 1 => by
    rw [evL, List.any_append, any_runs l k t n]
    unfold runsL
    rw [List.take_add_one, List.any_append]
    congr 1
    cases l[n]? with
    | none => rfl
    | some e =>
      show (if e.kind = 1 then [(n, e)] else []).any _ = _
      by_cases hk : e.kind = 1 <;> simp [hk]
theorem evL_mem {l : List Ev} {k : Int} {p : Nat × Ev} : ∀ {n : Nat}, p ∈ evL l k n → p.2 ∈ l
  | 0, h => by cases h
  | n + 1, h => by
    rw [evL] at h
    rcases List.mem_append.1 h with h | h
    · exact evL_mem h
    · cases hq : l[n]? with
      | none => rw [hq] at h; cases h
      | some e =>
        rw [hq] at h
        have h : p ∈ (if e.kind = k then [(n, e)] else []) := h
        split at h
        · have := List.mem_singleton.1 h; subst this; exact List.mem_of_getElem? hq
        · cases h
theorem row_fin {l : List Ev} {k f t : Int} {D : Int → Bool} (h : ∀ u, f ≤ u → u < t → cov k u none l = D u) : rg (wid f t) (tickG (evL l 1 l.length) k f (dotG D f)) = rowS k f t l := by
  unfold rowS
  apply rg_ext; intro j hj
  unfold tickG signB
  rw [any_runs, List.take_length, there_cov, h _ (by omega) (by unfold wid at hj; omega)]
  rfl

theorem cfill (a : Arr UInt8) (hao : a.Own) (hal : a.l.length ≤ 256) (g : Nat → UInt8) (f t fr to : Int) (hf : 0 ≤ f ∧ f ≤ 1073741824) (hfr : -1 ≤ fr ∧ fr ≤ 1073741824) (hto : 0 ≤ to ∧ to ≤ 1073741824) : Ctr Tryd.prog B 23 [.slice a.oad a.l.length a.c, .agg #[.int .i64 f, .int .i64 t], .int .i64 fr, .int .i64 to] [row (.slice a.oad a.l.length a.c) 5 1 a.l.length ((rg a.l.length g).flatMap encB)] (fun v S => v = .tuple #[] ∧ S = [row (.slice a.oad a.l.length a.c) 5 1 a.l.length ((rg a.l.length (fillG g f fr to)).flatMap encB)]) := by
  refine Ctr_of_X (N := 35) Tryd.func23 rfl (by simp) rfl ?_
  intro w0 D0
  refine X_seq ?_
  refine X_region ?_
  refine XL_box (cs := [.int .i64 f, .int .i64 t]) .no rfl rfl rfl (fun b1 => ?_)
  refine XL_then ?_
  refine X_seq ?_
  refine X_seq ?_
  refine X_region ?_
  refine XL_det .no (D_pure rfl) rfl ?_
  refine XL_det .no (D_pure rfl) rfl ?_
  refine XL_then ?_
  refine X_cond rfl (fun h1 => ?_) (fun h1 => ?_)
  · try simp only [decide_eq_true_eq, decide_eq_false_iff_not, Bool.not_eq_true', Bool.not_eq_false', beq_iff_eq, bne_iff_ne, beq_eq_false_iff_ne, bne_eq_false_iff_eq, Int.not_lt, Int.not_le, gt_iff_lt, ge_iff_le, ne_eq] at h1
    refine X_ret ?_
    refine thenX_ret ?_
    refine ret_ok (.nil _) (res_none rfl) ?_
    exact ⟨[row (.slice a.oad a.l.length a.c) 5 1 a.l.length ((rg a.l.length g).flatMap encB)], ⟨rfl, by rw [fillG_n h1]⟩, _, (by repeat first | with_reducible exact .nil _ | with_reducible exact .here _ _ | with_reducible exact Take.self _ | with_reducible apply Take.cons | with_reducible apply Out.there | with_reducible apply Take.skip | with_reducible exact Take.pre _ _ | with_reducible apply Out.app)⟩
  · try simp only [decide_eq_true_eq, decide_eq_false_iff_not, Bool.not_eq_true', Bool.not_eq_false', beq_iff_eq, bne_iff_ne, beq_eq_false_iff_ne, bne_eq_false_iff_eq, Int.not_lt, Int.not_le, gt_iff_lt, ge_iff_le, ne_eq] at h1
    refine X_skip ?_
    refine thenX_normal ?_
    refine X_seq ?_
    refine X_region ?_
    refine XL_det .no (D_pure rfl) rfl ?_
    refine XL_det .no (D_fld rfl fld_25_0 (o' := 0) rfl) rfl ?_
    refine XL_det .no (D_ldo rfl (by repeat first | with_reducible exact .here _ _ | with_reducible apply Out.there | with_reducible apply Out.app) tk_3 (by rfl)) rfl ?_
    refine XL_det .no (D_max rfl rfl) rfl ?_
    refine XL_det .no (D_pure rfl) rfl ?_
    refine XL_then ?_
    refine X_block ?_
    rw [fillU_0 a.l.length g f fr]
    refine X_loop (α := Int) (fun u => max fr f ≤ u ∧ u ≤ max (max fr f) to) (fun u => [(8, .int .i64 u), (0, .slice a.oad a.l.length a.c), (3, .int .i64 to), (5, .pointer (some ⟨b1, 0, none⟩))]) (fun u => [blk b1 [.int .i64 f, .int .i64 t] 25, row (.slice a.oad a.l.length a.c) 5 1 a.l.length ((rg a.l.length (fillU g f fr u)).flatMap encB)]) (fun u => (max to f + 1 - u).toNat) (max fr f) ?_ (by refine ⟨?_, ?_, ?_, ?_, trivial⟩ <;> rfl) (by repeat first | with_reducible exact .nil _ | with_reducible exact .here _ _ | with_reducible exact Take.self _ | with_reducible apply Take.cons | with_reducible apply Out.there | with_reducible apply Take.skip | with_reducible exact Take.pre _ _ | with_reducible apply Out.app) ?_
    · exact ⟨Int.le_refl _, by omega⟩
    · rintro u ⟨hu1, hu2⟩
      refine X_seq ?_
      refine X_seq ?_
      refine X_region ?_
      refine XL_det .no (D_pure rfl) rfl ?_
      refine XL_det .no (D_pure rfl) rfl ?_
      refine XL_det .no (D_pure rfl) rfl ?_
      refine XL_det .no (D_pure rfl) rfl ?_
      refine XL_split (t := 18) rfl (fun h2 => ?_) (fun h2 => ?_)
      · try simp only [decide_eq_true_eq, decide_eq_false_iff_not, Bool.not_eq_true', Bool.not_eq_false', beq_iff_eq, bne_iff_ne, beq_eq_false_iff_ne, bne_eq_false_iff_eq, Int.not_lt, Int.not_le, gt_iff_lt, ge_iff_le, ne_eq] at h2
        refine XL_det (.yes 18 rfl rfl rfl) (D_pure rfl) rfl ?_
        refine XL_det (.yes 18 rfl rfl rfl) (D_fld rfl fld_25_0 (o' := 0) rfl) rfl ?_
        refine XL_det (.yes 18 rfl rfl rfl) (D_ldo rfl (by repeat first | with_reducible exact .here _ _ | with_reducible apply Out.there | with_reducible apply Out.app) tk_3 (by rfl)) rfl ?_
        refine XL_det (.yes 18 rfl rfl rfl) (D_sub rfl rfl (by omega) (by omega)) rfl ?_
        refine XL_det (.yes 18 rfl rfl rfl) (D_pure rfl) rfl ?_
        refine XL_det (.yes 18 rfl rfl rfl) (D_len rfl rfl slc_29) rfl ?_
        refine XL_det (.yes 18 rfl rfl rfl) (D_pure rfl) rfl ?_
        refine XL_det .no (D_pure rfl) rfl ?_
        refine XL_then ?_
        refine X_cond rfl (fun h3 => ?_) (fun h3 => ?_)
        · try simp only [decide_eq_true_eq, decide_eq_false_iff_not, Bool.not_eq_true', Bool.not_eq_false', beq_iff_eq, bne_iff_ne, beq_eq_false_iff_ne, bne_eq_false_iff_eq, Int.not_lt, Int.not_le, gt_iff_lt, ge_iff_le, ne_eq] at h3
          refine X_skip ?_
          refine thenX_normal ?_
          refine X_seq ?_
          refine X_block ?_
          refine X_region ?_
          refine XL_det .no (D_pure rfl) rfl ?_
          refine XL_det .no (D_pure rfl) rfl ?_
          refine XL_det .no (D_fld rfl fld_25_0 (o' := 0) rfl) rfl ?_
          refine XL_det .no (D_ldo rfl (by repeat first | with_reducible exact .here _ _ | with_reducible apply Out.there | with_reducible apply Out.app) tk_3 (by rfl)) rfl ?_
          refine XL_det .no (D_sub (m := u) (n := f) rfl rfl (by omega) (by omega)) rfl ?_
          refine XL_det .no (D_idxSo (j := (u - f).toNat) rfl rfl slc_29 (a).nil0 (by omega) (by omega) rfl) rfl ?_
          refine XL_efd .no (F_rst (enc := encB) (i := (u - f).toNat) (y := 46) hao rfl rfl (fun _ => rfl) rfl rfl (by repeat first | with_reducible exact .here _ _ | with_reducible apply Out.there | with_reducible apply Out.app) tk_5 (by rw [rg_len]; omega) (fillU_s _ _ hu1)) ?_
          refine XL_nil ?_
          refine inBlk_normal ?_
          refine thenX_normal ?_
          refine X_region ?_
          refine XL_det .no (D_pure rfl) rfl ?_
          refine XL_det .no (D_add rfl rfl (by omega) (by omega)) rfl ?_
          refine XL_det .no (D_pure rfl) rfl ?_
          refine XL_nil ?_
          refine loopQ_next (u + 1) ?_ ?_ ?_ ?_
          · exact ⟨by omega, by omega⟩
          · omega
          · refine ⟨?_, ?_, ?_, ?_, trivial⟩ <;> rfl
          · exact ⟨_, (by repeat first | with_reducible exact .nil _ | with_reducible exact .here _ _ | with_reducible exact Take.self _ | with_reducible apply Take.cons | with_reducible apply Out.there | with_reducible apply Take.skip | with_reducible exact Take.pre _ _ | with_reducible apply Out.app)⟩
        · try simp only [decide_eq_true_eq, decide_eq_false_iff_not, Bool.not_eq_true', Bool.not_eq_false', beq_iff_eq, bne_iff_ne, beq_eq_false_iff_ne, bne_eq_false_iff_eq, Int.not_lt, Int.not_le, gt_iff_lt, ge_iff_le, ne_eq] at h3
          refine X_exit ?_
          refine thenX_exit ?_
          refine loopQ_exit ?_
          refine inBlk_here ?_
          refine ret_okn (.nil _) (res_none rfl) ?_
          exact ⟨[row (.slice a.oad a.l.length a.c) 5 1 a.l.length ((rg a.l.length (fillU g f fr u)).flatMap encB)], ⟨rfl, by rw [fillU_e (by omega) hu1 hu2 (by omega)]⟩, _, (by repeat first | with_reducible exact .nil _ | with_reducible exact .here _ _ | with_reducible exact Take.self _ | with_reducible apply Take.cons | with_reducible apply Out.there | with_reducible apply Take.skip | with_reducible exact Take.pre _ _ | with_reducible apply Out.app)⟩
      · try simp only [decide_eq_true_eq, decide_eq_false_iff_not, Bool.not_eq_true', Bool.not_eq_false', beq_iff_eq, bne_iff_ne, beq_eq_false_iff_ne, bne_eq_false_iff_eq, Int.not_lt, Int.not_le, gt_iff_lt, ge_iff_le, ne_eq] at h2
        refine XL_skip 18 rfl rfl rfl rfl rfl ?_
        refine XL_skip 18 rfl rfl rfl rfl rfl ?_
        refine XL_skip 18 rfl rfl rfl rfl rfl ?_
        refine XL_skip 18 rfl rfl rfl rfl rfl ?_
        refine XL_skip 18 rfl rfl rfl rfl rfl ?_
        refine XL_skip 18 rfl rfl rfl rfl rfl ?_
        refine XL_skip 18 rfl rfl rfl rfl rfl ?_
        refine XL_det .no (D_pure rfl) rfl ?_
        refine XL_then ?_
        refine X_cond_f rfl rfl ?_
        refine X_exit ?_
        refine thenX_exit ?_
        refine loopQ_exit ?_
        refine inBlk_here ?_
        refine ret_okn (.nil _) (res_none rfl) ?_
        exact ⟨[row (.slice a.oad a.l.length a.c) 5 1 a.l.length ((rg a.l.length (fillU g f fr u)).flatMap encB)], ⟨rfl, by rw [fillU_e (by omega) hu1 hu2 (by omega)]⟩, _, (by repeat first | with_reducible exact .nil _ | with_reducible exact .here _ _ | with_reducible exact Take.self _ | with_reducible apply Take.cons | with_reducible apply Out.there | with_reducible apply Take.skip | with_reducible exact Take.pre _ _ | with_reducible apply Out.app)⟩

end Go.Proofs.YtjcpggoodbkedaaDoor
end

section
namespace Go.Proofs.YtjcpggoodbkedaaDoor
open Go Go.Sl
set_option linter.unusedVariables false
set_option linter.unusedSimpArgs false
set_option maxRecDepth 4000
variable {B : Nat} {K : Asrt B}
theorem en_19 : Go.Proofs.Enters Tryd.prog 19 := Go.Proofs.enters_of Tryd.func19 (by kernel_rfl) rfl
theorem en_20 : Go.Proofs.Enters Tryd.prog 20 := Go.Proofs.enters_of Tryd.func20 (by kernel_rfl) rfl
theorem en_23 : Go.Proofs.Enters Tryd.prog 23 := Go.Proofs.enters_of Tryd.func23 (by kernel_rfl) rfl
theorem en_24 : Go.Proofs.Enters Tryd.prog 24 := Go.Proofs.enters_of Tryd.func24 (by kernel_rfl) rfl
theorem tk_25 : tyK Tryd.prog 25 = some (true, 2) := by kernel_rfl
theorem tk_29 : tyK Tryd.prog 29 = some (false, 1) := by kernel_rfl
theorem zero_29 : zeroOf Tryd.prog 29 = some [.slice none 0 0] := by kernel_rfl
theorem crow (k f t : Int) (l : Arr Ev) (hl : Rd K l.ad (l.l.flatMap encE)) (ht : okC f t l.l) : Ctr Tryd.prog B 18 [.int .i64 k, .agg #[.int .i64 f, .int .i64 t], .slice l.oad l.l.length l.c] [K] (fun v S => v = str (rowS k f t l.l) ∧ S = [K]) := by
  refine Ctr_of_X (N := 91) Tryd.func18 rfl (by simp) rfl ?_
  intro w0 D0
  refine X_seq ?_
  refine X_region ?_
  refine XL_box (cs := [.int .i64 k]) .no rfl rfl rfl (fun b1 => ?_)
  refine XL_box (cs := [.int .i64 f, .int .i64 t]) .no rfl rfl rfl (fun b2 => ?_)
  refine XL_det .no (D_pure rfl) rfl ?_
  refine XL_then ?_
  refine X_seq ?_
  refine X_region ?_
  refine XL_det .no (D_ldso (vs := [.int .i64 f, .int .i64 t]) rfl (by repeat first | with_reducible exact .here _ _ | with_reducible apply Out.there | with_reducible apply Out.app) tk_25 rfl (by rfl)) rfl ?_
  refine XL_callv .no en_19 rfl (cwide f t ht.f0 ht.t0) rfl ?_
  refine XL_make encB 0 .no rfl rfl slt_29 rfl (by have := wid_le f t; omega) (by have := wid_le f t; omega) rfl (fun c hc hco => ?_)
  have hcl : c.l.length = wid f t := by rw [hc]; simp
  have hwl := wid_le f t
  refine XL_alloc .no zero_29 rfl (fun b3 => ?_)
  refine XL_efd .no (F_stl rfl rfl rfl (by repeat first | with_reducible exact .here _ _ | with_reducible apply Out.there | with_reducible apply Out.app) tk_29 (by repeat first | exact .zero _ _ _ | apply SetL.succ)) ?_
  refine XL_then ?_
  refine X_seq ?_
  refine X_seq ?_
  refine X_region ?_
  refine XL_det .no (D_ldo rfl (by repeat first | with_reducible exact .here _ _ | with_reducible apply Out.there | with_reducible apply Out.app) tk_29 (by rfl)) rfl ?_
  refine XL_det .no (D_len rfl rfl slc_29) rfl ?_
  refine XL_det .no (D_pure rfl) rfl ?_
  refine XL_then ?_
  refine X_block ?_
  rw [show c.l.flatMap encB = (rg c.l.length (fun j => if j < 0 then 32 else 0)).flatMap encB by rw [← rg_of hc]]
  refine X_loop (α := Nat) (fun i => i ≤ c.l.length) (fun i => [(20, .int .i64 (i : Int)), (2, .slice l.oad l.l.length l.c), (3, .pointer (some ⟨b1, 0, none⟩)), (4, .pointer (some ⟨b2, 0, none⟩)), (7, .pointer (some ⟨b3, 0, none⟩)), (19, .int .i64 (c.l.length : Int))]) (fun i => [blk b1 [.int .i64 k] 3, blk b2 [.int .i64 f, .int .i64 t] 25, blk b3 [.slice c.oad c.l.length c.c] 29, row (.slice c.oad c.l.length c.c) 5 1 c.l.length ((rg c.l.length (fun j => if j < i then 32 else 0)).flatMap encB), K]) (fun i => c.l.length - i) 0 ?_ (by refine ⟨?_, ?_, ?_, ?_, ?_, ?_, trivial⟩ <;> rfl) (by repeat first | with_reducible exact .nil _ | with_reducible exact .here _ _ | with_reducible exact Take.self _ | with_reducible apply Take.cons | with_reducible apply Out.there | with_reducible apply Take.skip | with_reducible exact Take.pre _ _ | with_reducible apply Out.app) ?_
  · exact Nat.zero_le _
  · intro i hi
    refine X_seq ?_
    refine X_region ?_
    refine XL_det .no (D_pure rfl) rfl ?_
    refine XL_then ?_
    refine X_seq ?_
    refine X_cond rfl (fun h1 => ?_) (fun h1 => ?_)
    · try simp only [decide_eq_true_eq, decide_eq_false_iff_not, Bool.not_eq_true', Bool.not_eq_false', beq_iff_eq, bne_iff_ne, beq_eq_false_iff_ne, bne_eq_false_iff_eq, Int.not_lt, Int.not_le, gt_iff_lt, ge_iff_le, ne_eq] at h1
      refine X_skip ?_
      refine thenX_normal ?_
      refine X_seq ?_
      refine X_block ?_
      refine X_seq ?_
      refine X_region ?_
      refine XL_det .no (D_pure rfl) rfl ?_
      refine XL_det .no (D_pure rfl) rfl ?_
      refine XL_then ?_
      refine X_region ?_
      refine XL_det .no (D_ldo rfl (by repeat first | with_reducible exact .here _ _ | with_reducible apply Out.there | with_reducible apply Out.app) tk_29 (by rfl)) rfl ?_
      refine XL_det .no (D_pure rfl) rfl ?_
      refine XL_det .no (D_idxSo rfl rfl slc_29 (c).nil0 rfl (by omega) rfl) rfl ?_
      refine XL_efd .no (F_rst (enc := encB) (i := i) (y := 32) (xs' := rg c.l.length (fun j => if j < i + 1 then 32 else 0)) hco rfl rfl (fun _ => rfl) rfl rfl (by repeat first | with_reducible exact .here _ _ | with_reducible apply Out.there | with_reducible apply Out.app) tk_5 (by rw [rg_len]; omega) (sp_set _ _)) ?_
      refine XL_nil ?_
      refine inBlk_normal ?_
      refine thenX_normal ?_
      refine X_region ?_
      refine XL_det .no (D_add rfl rfl (by omega) (by omega)) rfl ?_
      refine XL_det .no (D_pure rfl) rfl ?_
      refine XL_nil ?_
      refine loopQ_next (i + 1) ?_ ?_ ?_ ?_
      · omega
      · omega
      · refine ⟨?_, ?_, ?_, ?_, ?_, ?_, trivial⟩ <;> rfl
      · exact ⟨_, (by repeat first | with_reducible exact .nil _ | with_reducible exact .here _ _ | with_reducible exact Take.self _ | with_reducible apply Take.cons | with_reducible apply Out.there | with_reducible apply Take.skip | with_reducible exact Take.pre _ _ | with_reducible apply Out.app)⟩
    · try simp only [decide_eq_true_eq, decide_eq_false_iff_not, Bool.not_eq_true', Bool.not_eq_false', beq_iff_eq, bne_iff_ne, beq_eq_false_iff_ne, bne_eq_false_iff_eq, Int.not_lt, Int.not_le, gt_iff_lt, ge_iff_le, ne_eq] at h1
      have hil0 : i = c.l.length := by omega
      have hsp : rg c.l.length (fun j => if j < i then 32 else 0) = rg c.l.length (dotG (fun _ => false) f) := rg_ext fun j hj => by rw [if_pos (by omega)]; rfl
      refine X_exit ?_
      refine thenX_exit ?_
      refine loopQ_exit ?_
      refine inBlk_here ?_
      refine thenX_normal ?_
      refine X_seq ?_
      refine X_region ?_
      refine XL_det .no (D_pure rfl) rfl ?_
      refine XL_then ?_
      refine X_seq ?_
      refine X_seq ?_
      refine X_region ?_
      refine XL_det .no (D_pure rfl) rfl ?_
      refine XL_det .no (D_len rfl rfl slc_26) rfl ?_
      refine XL_det .no (D_pure rfl) rfl ?_
      refine XL_then ?_
      refine X_block ?_
      rw [hsp]
      refine X_loop (α := Nat × Option Int × (Int → Bool)) (fun ⟨i, o, D⟩ => i ≤ l.l.length ∧ (∀ a, o = some a → 0 ≤ a ∧ a ≤ 1073741824) ∧ ∀ u, cov k u none l.l = (D u || cov k u o (l.l.drop i))) (fun ⟨i, o, D⟩ => [(9, .int .i64 (frm2 o)), (29, .int .i64 (i : Int)), (2, .slice l.oad l.l.length l.c), (3, .pointer (some ⟨b1, 0, none⟩)), (4, .pointer (some ⟨b2, 0, none⟩)), (7, .pointer (some ⟨b3, 0, none⟩)), (27, .slice l.oad l.l.length l.c), (28, .int .i64 (l.l.length : Int))]) (fun ⟨i, o, D⟩ => [blk b1 [.int .i64 k] 3, blk b2 [.int .i64 f, .int .i64 t] 25, blk b3 [.slice c.oad c.l.length c.c] 29, row (.slice c.oad c.l.length c.c) 5 1 c.l.length ((rg c.l.length (dotG D f)).flatMap encB), K]) (fun ⟨i, o, D⟩ => l.l.length - i) (0, none, fun _ => false) ?_ (by refine ⟨?_, ?_, ?_, ?_, ?_, ?_, ?_, ?_, trivial⟩ <;> rfl) (by repeat first | with_reducible exact .nil _ | with_reducible exact .here _ _ | with_reducible exact Take.self _ | with_reducible apply Take.cons | with_reducible apply Out.there | with_reducible apply Take.skip | with_reducible exact Take.pre _ _ | with_reducible apply Out.app) ?_
      · exact ⟨Nat.zero_le _, fun a h => (by cases h), fun u => rfl⟩
      · rintro ⟨i, o, D⟩ ⟨hi, ho, hD⟩
        dsimp only
        have hlm := ht.len
        refine X_seq ?_
        refine X_region ?_
        refine XL_det .no (D_pure rfl) rfl ?_
        refine XL_then ?_
        refine X_seq ?_
        refine X_cond rfl (fun h2 => ?_) (fun h2 => ?_)
        · try simp only [decide_eq_true_eq, decide_eq_false_iff_not, Bool.not_eq_true', Bool.not_eq_false', beq_iff_eq, bne_iff_ne, beq_eq_false_iff_ne, bne_eq_false_iff_eq, Int.not_lt, Int.not_le, gt_iff_lt, ge_iff_le, ne_eq] at h2
          obtain ⟨e, hg⟩ : ∃ e, l.l[i]? = some e := ⟨_, List.getElem?_eq_getElem (by omega)⟩
          refine X_skip ?_
          refine thenX_normal ?_
          refine X_seq ?_
          refine X_block ?_
          refine X_seq ?_
          refine X_region ?_
          refine XL_det .no (D_idxSo rfl rfl slc_26 (l).nil0 rfl (by omega) rfl) rfl ?_
          refine XL_det .no (D_els (enc := encE) (sz := 4) (i := i) (fun _ => rfl) rfl (by repeat first | with_reducible exact .here _ _ | with_reducible apply Out.there | with_reducible apply Out.app) hl tk_38 hg) rfl ?_
          refine XL_alloc (cs := encE zE) .no zero_38 rfl (fun b4 => ?_)
          refine XL_efd .no (F_stw (vs := encE e) rfl rfl (by rfl) (by repeat first | with_reducible exact .here _ _ | with_reducible apply Out.there | with_reducible apply Out.app) tk_38 rfl rfl) ?_
          refine XL_then ?_
          refine X_seq ?_
          refine X_seq ?_
          refine X_region ?_
          refine XL_det .no (D_fld rfl fld_38_2 (o' := 2) rfl) rfl ?_
          refine XL_det .no (D_ldo rfl (by repeat first | with_reducible exact .here _ _ | with_reducible apply Out.there | with_reducible apply Out.app) tk_3 (by rfl)) rfl ?_
          refine XL_det .no (D_ldo rfl (by repeat first | with_reducible exact .here _ _ | with_reducible apply Out.there | with_reducible apply Out.app) tk_3 (by rfl)) rfl ?_
          refine XL_det .no (D_pure rfl) rfl ?_
          refine XL_then ?_
          refine X_cond rfl (fun h3 => ?_) (fun h3 => ?_)
          · try simp only [decide_eq_true_eq, decide_eq_false_iff_not, Bool.not_eq_true', Bool.not_eq_false', beq_iff_eq, bne_iff_ne, beq_eq_false_iff_ne, bne_eq_false_iff_eq, Int.not_lt, Int.not_le, gt_iff_lt, ge_iff_le, ne_eq] at h3
            refine X_exit ?_
            refine thenX_exit ?_
            refine inBlk_here ?_
            refine thenX_normal ?_
            refine X_region ?_
            refine XL_det .no (D_add rfl rfl (by omega) (by omega)) rfl ?_
            refine XL_det .no (D_pure rfl) rfl ?_
            refine XL_nil ?_
            refine loopQ_next (i + 1, o, D) ?_ ?_ ?_ ?_
            · (try dsimp only); exact ⟨by omega, ho, fun u => by rw [hD u, cov_drop hg, if_neg h3]⟩
            · (try dsimp only); omega
            · refine ⟨?_, ?_, ?_, ?_, ?_, ?_, ?_, ?_, trivial⟩ <;> rfl
            · (try dsimp only); exact ⟨_, (by repeat first | with_reducible exact .nil _ | with_reducible exact .here _ _ | with_reducible exact Take.self _ | with_reducible apply Take.cons | with_reducible apply Out.there | with_reducible apply Take.skip | with_reducible exact Take.pre _ _ | with_reducible apply Out.app)⟩
          · try simp only [decide_eq_true_eq, decide_eq_false_iff_not, Bool.not_eq_true', Bool.not_eq_false', beq_iff_eq, bne_iff_ne, beq_eq_false_iff_ne, bne_eq_false_iff_eq, Int.not_lt, Int.not_le, gt_iff_lt, ge_iff_le, ne_eq] at h3
            refine X_skip ?_
            refine thenX_normal ?_
            refine X_seq ?_
            refine X_region ?_
            refine XL_det .no (D_fld rfl fld_38_1 (o' := 1) rfl) rfl ?_
            refine XL_det .no (D_ldo rfl (by repeat first | with_reducible exact .here _ _ | with_reducible apply Out.there | with_reducible apply Out.app) tk_36 (by rfl)) rfl ?_
            refine XL_then ?_
            refine X_block ?_
            refine X_seq ?_
            refine X_region ?_
            refine XL_det .no (D_pure rfl) rfl ?_
            refine XL_det .no (D_pure rfl) rfl ?_
            refine XL_then ?_
            refine X_cond rfl (fun h4 => ?_) (fun h4 => ?_)
            · try simp only [decide_eq_true_eq, decide_eq_false_iff_not, Bool.not_eq_true', Bool.not_eq_false', beq_iff_eq, bne_iff_ne, beq_eq_false_iff_ne, bne_eq_false_iff_eq, Int.not_lt, Int.not_le, gt_iff_lt, ge_iff_le, ne_eq] at h4
              refine X_region ?_
              refine XL_det .no (D_fld rfl fld_38_0 (o' := 0) rfl) rfl ?_
              refine XL_det .no (D_ldo rfl (by repeat first | with_reducible exact .here _ _ | with_reducible apply Out.there | with_reducible apply Out.app) tk_3 (by rfl)) rfl ?_
              refine XL_det .no (D_pure rfl) rfl ?_
              refine XL_nil ?_
              refine inBlk_normal ?_
              refine inBlk_normal ?_
              refine thenX_normal ?_
              refine X_region ?_
              refine XL_det .no (D_add rfl rfl (by omega) (by omega)) rfl ?_
              refine XL_det .no (D_pure rfl) rfl ?_
              refine XL_nil ?_
              refine loopQ_next (i + 1, some e.tick, D) ?_ ?_ ?_ ?_
              · (try dsimp only); exact ⟨by omega, fun a ha => (by cases ha; exact ht.ev e (List.mem_of_getElem? hg)), fun u => by rw [hD u, cov_drop hg, if_pos h3, if_pos h4]⟩
              · (try dsimp only); omega
              · refine ⟨?_, ?_, ?_, ?_, ?_, ?_, ?_, ?_, trivial⟩ <;> rfl
              · (try dsimp only); exact ⟨_, (by repeat first | with_reducible exact .nil _ | with_reducible exact .here _ _ | with_reducible exact Take.self _ | with_reducible apply Take.cons | with_reducible apply Out.there | with_reducible apply Take.skip | with_reducible exact Take.pre _ _ | with_reducible apply Out.app)⟩
            · try simp only [decide_eq_true_eq, decide_eq_false_iff_not, Bool.not_eq_true', Bool.not_eq_false', beq_iff_eq, bne_iff_ne, beq_eq_false_iff_ne, bne_eq_false_iff_eq, Int.not_lt, Int.not_le, gt_iff_lt, ge_iff_le, ne_eq] at h4
              refine X_seq ?_
              refine X_region ?_
              refine XL_det .no (D_pure rfl) rfl ?_
              refine XL_det .no (D_pure rfl) rfl ?_
              refine XL_then ?_
              refine X_cond rfl (fun h5 => ?_) (fun h5 => ?_)
              · try simp only [decide_eq_true_eq, decide_eq_false_iff_not, Bool.not_eq_true', Bool.not_eq_false', beq_iff_eq, bne_iff_ne, beq_eq_false_iff_ne, bne_eq_false_iff_eq, Int.not_lt, Int.not_le, gt_iff_lt, ge_iff_le, ne_eq] at h5
                refine X_seq ?_
                refine X_region ?_
                refine XL_det .no (D_ldo rfl (by repeat first | with_reducible exact .here _ _ | with_reducible apply Out.there | with_reducible apply Out.app) tk_29 (by rfl)) rfl ?_
                refine XL_det .no (D_ldso (vs := [.int .i64 f, .int .i64 t]) rfl (by repeat first | with_reducible exact .here _ _ | with_reducible apply Out.there | with_reducible apply Out.app) tk_25 rfl (by rfl)) rfl ?_
                refine XL_det .no (D_pure rfl) rfl ?_
                refine XL_det .no (D_fld rfl fld_38_0 (o' := 0) rfl) rfl ?_
                refine XL_det .no (D_ldo rfl (by repeat first | with_reducible exact .here _ _ | with_reducible apply Out.there | with_reducible apply Out.app) tk_3 (by rfl)) rfl ?_
                refine XL_call .no en_23 rfl (cfill c hco (by omega) (dotG D f) f t (frm2 o) e.tick ht.f0 (by cases o with | none => exact ⟨by decide, by decide⟩ | some a => have := ho a rfl; exact ⟨by show -1 ≤ a; omega, by show a ≤ _; omega⟩) (by have := ht.ev e (List.mem_of_getElem? hg); omega)) (by repeat first | with_reducible exact .nil _ | with_reducible exact .here _ _ | with_reducible exact Take.self _ | with_reducible apply Take.cons | with_reducible apply Out.there | with_reducible apply Take.skip | with_reducible exact Take.pre _ _ | with_reducible apply Out.app) rfl ?_
                rintro _ _ ⟨rfl, rfl⟩
                simp only [List.cons_append, List.nil_append]
                rw [dot_fill (fun a ha => (ho a ha).1)]
                refine XL_then ?_
                refine X_region ?_
                refine XL_det .no (D_pure rfl) rfl ?_
                refine XL_nil ?_
                refine inBlk_normal ?_
                refine inBlk_normal ?_
                refine thenX_normal ?_
                refine X_region ?_
                refine XL_det .no (D_add rfl rfl (by omega) (by omega)) rfl ?_
                refine XL_det .no (D_pure rfl) rfl ?_
                refine XL_nil ?_
                refine loopQ_next (i + 1, none, addD D o e.tick) ?_ ?_ ?_ ?_
                · (try dsimp only); exact ⟨by omega, fun a ha => (by cases ha), fun u => by rw [hD u, cov_drop hg, if_pos h3, if_neg h4, if_pos h5, ← Bool.or_assoc]; rfl⟩
                · (try dsimp only); omega
                · refine ⟨?_, ?_, ?_, ?_, ?_, ?_, ?_, ?_, trivial⟩ <;> rfl
                · (try dsimp only); exact ⟨_, (by repeat first | with_reducible exact .nil _ | with_reducible exact .here _ _ | with_reducible exact Take.self _ | with_reducible apply Take.cons | with_reducible apply Out.there | with_reducible apply Take.skip | with_reducible exact Take.pre _ _ | with_reducible apply Out.app)⟩
              · try simp only [decide_eq_true_eq, decide_eq_false_iff_not, Bool.not_eq_true', Bool.not_eq_false', beq_iff_eq, bne_iff_ne, beq_eq_false_iff_ne, bne_eq_false_iff_eq, Int.not_lt, Int.not_le, gt_iff_lt, ge_iff_le, ne_eq] at h5
                refine X_skip ?_
                refine inBlk_normal ?_
                refine inBlk_normal ?_
                refine thenX_normal ?_
                refine X_region ?_
                refine XL_det .no (D_add rfl rfl (by omega) (by omega)) rfl ?_
                refine XL_det .no (D_pure rfl) rfl ?_
                refine XL_nil ?_
                refine loopQ_next (i + 1, o, D) ?_ ?_ ?_ ?_
                · (try dsimp only); exact ⟨by omega, ho, fun u => by rw [hD u, cov_drop hg, if_pos h3, if_neg h4, if_neg h5]⟩
                · (try dsimp only); omega
                · refine ⟨?_, ?_, ?_, ?_, ?_, ?_, ?_, ?_, trivial⟩ <;> rfl
                · (try dsimp only); exact ⟨_, (by repeat first | with_reducible exact .nil _ | with_reducible exact .here _ _ | with_reducible exact Take.self _ | with_reducible apply Take.cons | with_reducible apply Out.there | with_reducible apply Take.skip | with_reducible exact Take.pre _ _ | with_reducible apply Out.app)⟩
        · try simp only [decide_eq_true_eq, decide_eq_false_iff_not, Bool.not_eq_true', Bool.not_eq_false', beq_iff_eq, bne_iff_ne, beq_eq_false_iff_ne, bne_eq_false_iff_eq, Int.not_lt, Int.not_le, gt_iff_lt, ge_iff_le, ne_eq] at h2
          have hil : i = l.l.length := by omega
          refine X_exit ?_
          refine thenX_exit ?_
          refine loopQ_exit ?_
          refine inBlk_here ?_
          refine thenX_normal ?_
          refine X_seqj (α := Int → Bool) (fun D2 => ∀ u, f ≤ u → u < t → cov k u none l.l = D2 u) (fun D2 => [(2, .slice l.oad l.l.length l.c), (3, .pointer (some ⟨b1, 0, none⟩)), (4, .pointer (some ⟨b2, 0, none⟩)), (7, .pointer (some ⟨b3, 0, none⟩))]) (fun D2 => [blk b1 [.int .i64 k] 3, blk b2 [.int .i64 f, .int .i64 t] 25, blk b3 [.slice c.oad c.l.length c.c] 29, row (.slice c.oad c.l.length c.c) 5 1 c.l.length ((rg c.l.length (dotG D2 f)).flatMap encB), K]) ?_ ?_
          · skip
            refine X_seq ?_
            refine X_region ?_
            refine XL_det .no (D_pure rfl) rfl ?_
            refine XL_det .no (D_pure rfl) rfl ?_
            refine XL_then ?_
            refine X_cond rfl (fun h6 => ?_) (fun h6 => ?_)
            · try simp only [decide_eq_true_eq, decide_eq_false_iff_not, Bool.not_eq_true', Bool.not_eq_false', beq_iff_eq, bne_iff_ne, beq_eq_false_iff_ne, bne_eq_false_iff_eq, Int.not_lt, Int.not_le, gt_iff_lt, ge_iff_le, ne_eq] at h6
              refine X_region ?_
              refine XL_det .no (D_ldo rfl (by repeat first | with_reducible exact .here _ _ | with_reducible apply Out.there | with_reducible apply Out.app) tk_29 (by rfl)) rfl ?_
              refine XL_det .no (D_ldso (vs := [.int .i64 f, .int .i64 t]) rfl (by repeat first | with_reducible exact .here _ _ | with_reducible apply Out.there | with_reducible apply Out.app) tk_25 rfl (by rfl)) rfl ?_
              refine XL_det .no (D_pure rfl) rfl ?_
              refine XL_det .no (D_fld rfl fld_25_1 (o' := 1) rfl) rfl ?_
              refine XL_det .no (D_ldo rfl (by repeat first | with_reducible exact .here _ _ | with_reducible apply Out.there | with_reducible apply Out.app) tk_3 (by rfl)) rfl ?_
              refine XL_call .no en_23 rfl (cfill c hco (by omega) (dotG D f) f t (frm2 o) t ht.f0 (by cases o with | none => exact ⟨by decide, by decide⟩ | some a => have := ho a rfl; exact ⟨by show -1 ≤ a; omega, by show a ≤ _; omega⟩) (by exact ht.t0)) (by repeat first | with_reducible exact .nil _ | with_reducible exact .here _ _ | with_reducible exact Take.self _ | with_reducible apply Take.cons | with_reducible apply Out.there | with_reducible apply Take.skip | with_reducible exact Take.pre _ _ | with_reducible apply Out.app) rfl ?_
              rintro _ _ ⟨rfl, rfl⟩
              simp only [List.cons_append, List.nil_append]
              rw [dot_fill (fun a ha => (ho a ha).1)]
              refine XL_nil ?_
              refine joinQ_normal (addD D o t) ?_ ?_ ?_
              · exact fun u h1 h2 => by have hq := hD u; rw [hil, List.drop_length] at hq; rw [hq]; cases o with | none => rfl | some a => unfold addD within; show (D u || (decide (a ≤ u) && decide (u < 2147483648))) = (D u || (decide (a ≤ u) && decide (u < t))); rw [decide_eq_true (show u < 2147483648 by have := ht.t0; omega), decide_eq_true h2]
              · refine ⟨?_, ?_, ?_, ?_, trivial⟩ <;> rfl
              · exact ⟨_, (by repeat first | with_reducible exact .nil _ | with_reducible exact .here _ _ | with_reducible exact Take.self _ | with_reducible apply Take.cons | with_reducible apply Out.there | with_reducible apply Take.skip | with_reducible exact Take.pre _ _ | with_reducible apply Out.app)⟩
            · try simp only [decide_eq_true_eq, decide_eq_false_iff_not, Bool.not_eq_true', Bool.not_eq_false', beq_iff_eq, bne_iff_ne, beq_eq_false_iff_ne, bne_eq_false_iff_eq, Int.not_lt, Int.not_le, gt_iff_lt, ge_iff_le, ne_eq] at h6
              refine X_skip ?_
              refine joinQ_normal D ?_ ?_ ?_
              · exact fun u h1 h2 => by have hq := hD u; rw [hil, List.drop_length] at hq; rw [hq]; cases o with | none => exact Bool.or_false _ | some a => exact absurd (ho a rfl).1 (by have h7 : a < 0 := h6; omega)
              · refine ⟨?_, ?_, ?_, ?_, trivial⟩ <;> rfl
              · exact ⟨_, (by repeat first | with_reducible exact .nil _ | with_reducible exact .here _ _ | with_reducible exact Take.self _ | with_reducible apply Take.cons | with_reducible apply Out.there | with_reducible apply Take.skip | with_reducible exact Take.pre _ _ | with_reducible apply Out.app)⟩
          · intro D2 hD2
            refine X_seq ?_
            refine X_seq ?_
            refine X_region ?_
            refine XL_det .no (D_pure rfl) rfl ?_
            refine XL_call .no en_20 rfl (trOf 1 l) (by repeat first | with_reducible exact .nil _ | with_reducible exact .here _ _ | with_reducible exact Take.self _ | with_reducible apply Take.cons | with_reducible apply Out.there | with_reducible apply Take.skip | with_reducible exact Take.pre _ _ | with_reducible apply Out.app) rfl ?_
            rintro _ _ ⟨bl, bk, rfl, rfl⟩
            simp only [List.cons_append, List.nil_append]
            refine XL_then ?_
            refine X_block ?_
            rw [show rg c.l.length (dotG D2 f) = rg c.l.length (tickG ((evL l.l 1 l.l.length).take 0) k f (dotG D2 f)) from rg_ext fun j _ => rfl]
            refine X_range (own := [blk bl [.slice l.oad l.l.length l.c] 26, blk bk [.int .i64 1] 36, K]) (S1 := [blk b1 [.int .i64 k] 3, blk b2 [.int .i64 f, .int .i64 t] 25, blk b3 [.slice c.oad c.l.length c.c] 29, row (.slice c.oad c.l.length c.c) 5 1 c.l.length ((rg c.l.length (tickG ((evL l.l 1 l.l.length).take 0) k f (dotG D2 f))).flatMap encB)]) rfl en_24 (trItr bl bk 1 l hl) (fun i S => True ∧ S = [blk b1 [.int .i64 k] 3, blk b2 [.int .i64 f, .int .i64 t] 25, blk b3 [.slice c.oad c.l.length c.c] 29, row (.slice c.oad c.l.length c.c) 5 1 c.l.length ((rg c.l.length (tickG ((evL l.l 1 l.l.length).take i) k f (dotG D2 f))).flatMap encB)]) (fun c i S => False) (show Take ([blk bl [.slice l.oad l.l.length l.c] 26, blk bk [.int .i64 1] 36, K, blk b1 [.int .i64 k] 3, blk b2 [.int .i64 f, .int .i64 t] 25, blk b3 [.slice c.oad c.l.length c.c] 29, row (.slice c.oad c.l.length c.c) 5 1 c.l.length ((rg c.l.length (tickG ((evL l.l 1 l.l.length).take 0) k f (dotG D2 f))).flatMap encB)]) _ _ from (by repeat first | with_reducible exact .nil _ | with_reducible exact .here _ _ | with_reducible exact Take.self _ | with_reducible apply Take.cons | with_reducible apply Out.there | with_reducible apply Take.skip | with_reducible exact Take.pre _ _ | with_reducible apply Out.app)) (⟨trivial, rfl⟩) rfl (fun x hx => by obtain ⟨y, _, rfl⟩ := List.mem_map.1 hx; rfl) ?_ ?_ ?_
            · intro ly rec A2 i S2 hi hJ
              obtain ⟨_, rfl⟩ := hJ
              rw [List.length_map] at hi
              obtain ⟨p, hp⟩ : ∃ p, (evL l.l 1 l.l.length)[i]? = some p := ⟨_, List.getElem?_eq_getElem hi⟩
              have htk := ht.ev p.2 (evL_mem (List.mem_of_getElem? hp))
              have hff := ht.f0
              rw [evV_get hp]
              refine X_region ?_
              refine XL_alloc (cs := encE zE) .no zero_38 rfl (fun b5 => ?_)
              refine XL_efd .no (F_stw (vs := encE p.2) rfl rfl (by rfl) (by repeat first | with_reducible exact .here _ _ | with_reducible apply Out.there | with_reducible apply Out.app) tk_38 rfl rfl) ?_
              refine XL_nil ?_
              refine ⟨rfl, _, _, .cons (by repeat first | with_reducible exact .here _ _ | with_reducible apply Out.there | with_reducible apply Out.app) (Take.self _), fun rec2 => ?_⟩
              refine X_block ?_
              refine X_seq ?_
              refine X_region ?_
              refine XL_det .no (D_fld rfl fld_38_0 (o' := 0) rfl) rfl ?_
              refine XL_det .no (D_ldo rfl (by repeat first | with_reducible exact .here _ _ | with_reducible apply Out.there | with_reducible apply Out.app) tk_3 (by rfl)) rfl ?_
              refine XL_det .no (D_fld rfl fld_25_0 (o' := 0) rfl) rfl ?_
              refine XL_det .no (D_ldo rfl (by repeat first | with_reducible exact .here _ _ | with_reducible apply Out.there | with_reducible apply Out.app) tk_3 (by rfl)) rfl ?_
              refine XL_det .no (D_sub rfl rfl (by omega) (by omega)) rfl ?_
              refine XL_det .no (D_pure rfl) rfl ?_
              refine XL_then ?_
              refine X_seq ?_
              refine X_region ?_
              refine XL_det .no (D_fld rfl fld_38_2 (o' := 2) rfl) rfl ?_
              refine XL_det .no (D_ldo rfl (by repeat first | with_reducible exact .here _ _ | with_reducible apply Out.there | with_reducible apply Out.app) tk_3 (by rfl)) rfl ?_
              refine XL_det .no (D_ldo rfl (by repeat first | with_reducible exact .here _ _ | with_reducible apply Out.there | with_reducible apply Out.app) tk_3 (by rfl)) rfl ?_
              refine XL_det .no (D_pure rfl) rfl ?_
              refine XL_det .no (D_pure rfl) rfl ?_
              refine XL_split (t := 73) rfl (fun h7 => ?_) (fun h7 => ?_)
              · try simp only [decide_eq_true_eq, decide_eq_false_iff_not, Bool.not_eq_true', Bool.not_eq_false', beq_iff_eq, bne_iff_ne, beq_eq_false_iff_ne, bne_eq_false_iff_eq, Int.not_lt, Int.not_le, gt_iff_lt, ge_iff_le, ne_eq] at h7
                refine XL_det (.yes 73 rfl rfl rfl) (D_fld rfl fld_38_0 (o' := 0) rfl) rfl ?_
                refine XL_det (.yes 73 rfl rfl rfl) (D_ldo rfl (by repeat first | with_reducible exact .here _ _ | with_reducible apply Out.there | with_reducible apply Out.app) tk_3 (by rfl)) rfl ?_
                refine XL_det (.yes 73 rfl rfl rfl) (D_fld rfl fld_25_0 (o' := 0) rfl) rfl ?_
                refine XL_det (.yes 73 rfl rfl rfl) (D_ldo rfl (by repeat first | with_reducible exact .here _ _ | with_reducible apply Out.there | with_reducible apply Out.app) tk_3 (by rfl)) rfl ?_
                refine XL_det (.yes 73 rfl rfl rfl) (D_pure rfl) rfl ?_
                refine XL_det .no (D_pure rfl) rfl ?_
                refine XL_det .no (D_pure rfl) rfl ?_
                refine XL_split (t := 80) rfl (fun h8 => ?_) (fun h8 => ?_)
                · try simp only [decide_eq_true_eq, decide_eq_false_iff_not, Bool.not_eq_true', Bool.not_eq_false', beq_iff_eq, bne_iff_ne, beq_eq_false_iff_ne, bne_eq_false_iff_eq, Int.not_lt, Int.not_le, gt_iff_lt, ge_iff_le, ne_eq] at h8
                  refine XL_det (.yes 80 rfl rfl rfl) (D_pure rfl) rfl ?_
                  refine XL_det (.yes 80 rfl rfl rfl) (D_ldo rfl (by repeat first | with_reducible exact .here _ _ | with_reducible apply Out.there | with_reducible apply Out.app) tk_29 (by rfl)) rfl ?_
                  refine XL_det (.yes 80 rfl rfl rfl) (D_len rfl rfl slc_29) rfl ?_
                  refine XL_det (.yes 80 rfl rfl rfl) (D_pure rfl) rfl ?_
                  refine XL_det .no (D_pure rfl) rfl ?_
                  refine XL_then ?_
                  refine X_cond rfl (fun h9 => ?_) (fun h9 => ?_)
                  · try simp only [decide_eq_true_eq, decide_eq_false_iff_not, Bool.not_eq_true', Bool.not_eq_false', beq_iff_eq, bne_iff_ne, beq_eq_false_iff_ne, bne_eq_false_iff_eq, Int.not_lt, Int.not_le, gt_iff_lt, ge_iff_le, ne_eq] at h9
                    refine X_region ?_
                    refine XL_det .no (D_ldo rfl (by repeat first | with_reducible exact .here _ _ | with_reducible apply Out.there | with_reducible apply Out.app) tk_29 (by rfl)) rfl ?_
                    refine XL_det .no (D_pure rfl) rfl ?_
                    refine XL_det .no (D_idxSo (j := (p.2.tick - f).toNat) rfl rfl slc_29 (c).nil0 (by omega) (by omega) rfl) rfl ?_
                    refine XL_efd .no (F_rst (enc := encB) (i := (p.2.tick - f).toNat) (y := 35) hco rfl rfl (fun _ => rfl) rfl rfl (by repeat first | with_reducible exact .here _ _ | with_reducible apply Out.there | with_reducible apply Out.app) tk_5 (by rw [rg_len]; omega) (tickG_s hp (by assumption) (by omega))) ?_
                    refine XL_nil ?_
                    refine inBlk_normal ?_
                    exact ⟨[blk b1 [.int .i64 k] 3, blk b2 [.int .i64 f, .int .i64 t] 25, blk b3 [.slice c.oad c.l.length c.c] 29, row (.slice c.oad c.l.length c.c) 5 1 c.l.length ((rg c.l.length (tickG ((evL l.l 1 l.l.length).take (i + 1)) k f (dotG D2 f))).flatMap encB)], _, (by repeat first | with_reducible exact .nil _ | with_reducible exact .here _ _ | with_reducible exact Take.self _ | with_reducible apply Take.cons | with_reducible apply Out.there | with_reducible apply Take.skip | with_reducible exact Take.pre _ _ | with_reducible apply Out.app), ⟨trivial, rfl⟩⟩
                  · try simp only [decide_eq_true_eq, decide_eq_false_iff_not, Bool.not_eq_true', Bool.not_eq_false', beq_iff_eq, bne_iff_ne, beq_eq_false_iff_ne, bne_eq_false_iff_eq, Int.not_lt, Int.not_le, gt_iff_lt, ge_iff_le, ne_eq] at h9
                    refine X_skip ?_
                    refine inBlk_normal ?_
                    rw [tickG_n hp (by omega)]
                    exact ⟨[blk b1 [.int .i64 k] 3, blk b2 [.int .i64 f, .int .i64 t] 25, blk b3 [.slice c.oad c.l.length c.c] 29, row (.slice c.oad c.l.length c.c) 5 1 c.l.length ((rg c.l.length (tickG ((evL l.l 1 l.l.length).take (i + 1)) k f (dotG D2 f))).flatMap encB)], _, (by repeat first | with_reducible exact .nil _ | with_reducible exact .here _ _ | with_reducible exact Take.self _ | with_reducible apply Take.cons | with_reducible apply Out.there | with_reducible apply Take.skip | with_reducible exact Take.pre _ _ | with_reducible apply Out.app), ⟨trivial, rfl⟩⟩
                · try simp only [decide_eq_true_eq, decide_eq_false_iff_not, Bool.not_eq_true', Bool.not_eq_false', beq_iff_eq, bne_iff_ne, beq_eq_false_iff_ne, bne_eq_false_iff_eq, Int.not_lt, Int.not_le, gt_iff_lt, ge_iff_le, ne_eq] at h8
                  refine XL_skip 80 rfl rfl rfl rfl rfl ?_
                  refine XL_skip 80 rfl rfl rfl rfl rfl ?_
                  refine XL_skip 80 rfl rfl rfl rfl rfl ?_
                  refine XL_skip 80 rfl rfl rfl rfl rfl ?_
                  refine XL_det .no (D_pure rfl) rfl ?_
                  refine XL_then ?_
                  refine X_cond_f rfl rfl ?_
                  refine X_skip ?_
                  refine inBlk_normal ?_
                  rw [tickG_n hp (by omega)]
                  exact ⟨[blk b1 [.int .i64 k] 3, blk b2 [.int .i64 f, .int .i64 t] 25, blk b3 [.slice c.oad c.l.length c.c] 29, row (.slice c.oad c.l.length c.c) 5 1 c.l.length ((rg c.l.length (tickG ((evL l.l 1 l.l.length).take (i + 1)) k f (dotG D2 f))).flatMap encB)], _, (by repeat first | with_reducible exact .nil _ | with_reducible exact .here _ _ | with_reducible exact Take.self _ | with_reducible apply Take.cons | with_reducible apply Out.there | with_reducible apply Take.skip | with_reducible exact Take.pre _ _ | with_reducible apply Out.app), ⟨trivial, rfl⟩⟩
              · try simp only [decide_eq_true_eq, decide_eq_false_iff_not, Bool.not_eq_true', Bool.not_eq_false', beq_iff_eq, bne_iff_ne, beq_eq_false_iff_ne, bne_eq_false_iff_eq, Int.not_lt, Int.not_le, gt_iff_lt, ge_iff_le, ne_eq] at h7
                refine XL_skip 73 rfl rfl rfl rfl rfl ?_
                refine XL_skip 73 rfl rfl rfl rfl rfl ?_
                refine XL_skip 73 rfl rfl rfl rfl rfl ?_
                refine XL_skip 73 rfl rfl rfl rfl rfl ?_
                refine XL_skip 73 rfl rfl rfl rfl rfl ?_
                refine XL_det .no (D_pure rfl) rfl ?_
                refine XL_det .no (D_pure rfl) rfl ?_
                refine XL_skip 80 rfl rfl rfl rfl rfl ?_
                refine XL_skip 80 rfl rfl rfl rfl rfl ?_
                refine XL_skip 80 rfl rfl rfl rfl rfl ?_
                refine XL_skip 80 rfl rfl rfl rfl rfl ?_
                refine XL_det .no (D_pure rfl) rfl ?_
                refine XL_then ?_
                refine X_cond_f rfl rfl ?_
                refine X_skip ?_
                refine inBlk_normal ?_
                rw [tickG_n hp (by omega)]
                exact ⟨[blk b1 [.int .i64 k] 3, blk b2 [.int .i64 f, .int .i64 t] 25, blk b3 [.slice c.oad c.l.length c.c] 29, row (.slice c.oad c.l.length c.c) 5 1 c.l.length ((rg c.l.length (tickG ((evL l.l 1 l.l.length).take (i + 1)) k f (dotG D2 f))).flatMap encB)], _, (by repeat first | with_reducible exact .nil _ | with_reducible exact .here _ _ | with_reducible exact Take.self _ | with_reducible apply Take.cons | with_reducible apply Out.there | with_reducible apply Take.skip | with_reducible exact Take.pre _ _ | with_reducible apply Out.app), ⟨trivial, rfl⟩⟩
            · intro dd0 S2 hJ
              obtain ⟨_, rfl⟩ := hJ
              rw [List.length_map, List.take_length]
              simp only [List.cons_append, List.nil_append]
              refine inBlk_normal ?_
              refine thenX_normal ?_
              refine X_seq ?_
              refine X_region ?_
              refine XL_det .no (D_ldo rfl (by repeat first | with_reducible exact .here _ _ | with_reducible apply Out.there | with_reducible apply Out.app) tk_29 (by rfl)) rfl ?_
              refine XL_det .no (D_bstr (a := c) (l := rg c.l.length (tickG (evL l.l 1 l.l.length) k f (dotG D2 f))) rfl (by repeat first | with_reducible exact .here _ _ | with_reducible apply Out.there | with_reducible apply Out.app) (Rd_rowx hco rfl (rg_len _ _)) (rg_len _ _) bstr_29_9) rfl ?_
              refine XL_det .no (D_pure rfl) rfl ?_
              refine XL_then ?_
              refine X_ret ?_
              refine ret_ok (show Take [dfr dd0] _ _ from (by repeat first | with_reducible exact .nil _ | with_reducible exact .here _ _ | with_reducible exact Take.self _ | with_reducible apply Take.cons | with_reducible apply Out.there | with_reducible apply Take.skip | with_reducible exact Take.pre _ _ | with_reducible apply Out.app)) (res_tmp rfl rfl) ?_
              exact ⟨_, ⟨by rw [hcl, row_fin hD2], rfl⟩, _, (by repeat first | with_reducible exact .nil _ | with_reducible exact .here _ _ | with_reducible exact Take.self _ | with_reducible apply Take.cons | with_reducible apply Out.there | with_reducible apply Take.skip | with_reducible exact Take.pre _ _ | with_reducible apply Out.app)⟩
            · intro dd0 c i S2 hi h
              exact h.elim

end Go.Proofs.YtjcpggoodbkedaaDoor
end

section
namespace Go.Proofs.YtjcpggoodbkedaaDoor
open Go Go.Sl
set_option linter.unusedVariables false
set_option linter.unusedSimpArgs false
set_option maxRecDepth 4000
variable {B : Nat} {K : Asrt B}
theorem zero_3 : zeroOf Tryd.prog 3 = some [.int .i64 0] := by kernel_rfl

/-- The mode at a tick. -/
def modeAt (first t : Int) (l : List Ev) : Int := l.foldl (fun m e => if e.kind = 8 ∧ e.tick ≤ t then e.a else m) first
def modeE (first t : Int) (L : List (Nat × Ev)) : Int := L.foldl (fun m p => if p.2.tick ≤ t then p.2.a else m) first
theorem modeAt_s {first t : Int} {l : List Ev} {i : Nat} {e : Ev} (h : l[i]? = some e) : modeAt first t (l.take (i + 1)) = if e.kind = 8 ∧ e.tick ≤ t then e.a else modeAt first t (l.take i) := by
  unfold modeAt; rw [List.take_add_one, h, List.foldl_append]; rfl
theorem modeE_s {first t : Int} {L : List (Nat × Ev)} {i : Nat} {p : Nat × Ev} (h : L[i]? = some p) : modeE first t (L.take (i + 1)) = if p.2.tick ≤ t then p.2.a else modeE first t (L.take i) := by
  unfold modeE; rw [List.take_add_one, h, List.foldl_append]; rfl
theorem mode_evL (l : List Ev) (first t : Int) : ∀ n, modeE first t (evL l 8 n) = modeAt first t (l.take n)
  | 0 => rfl
  | n + 1 => by
    rw [evL]
    cases hq : l[n]? with
    | none =>
      show modeE first t (evL l 8 n ++ []) = _
      rw [List.append_nil, mode_evL l first t n, List.take_add_one, hq]; simp
    | some e =>
      rw [modeAt_s hq, ← mode_evL l first t n]
      show modeE first t (evL l 8 n ++ if e.kind = 8 then [(n, e)] else []) = _
      by_cases hk : e.kind = 8
      · rw [if_pos hk]; unfold modeE; rw [List.foldl_append]; simp [hk]
      · rw [if_neg hk, List.append_nil, if_neg (fun c => hk c.1)]
/-- A mode's sign. -/
def digB (m : Int) : UInt8 := UInt8.ofNat (48 + (max m 0).toNat % 10)
theorem digB_wrap (m : Int) : IntKind.u8.wrap (48 + (max m 0) % 10) = ((digB m).toNat : Int) := by
  have h : (digB m).toNat = 48 + (max m 0).toNat % 10 := by unfold digB; rw [UInt8.toNat_ofNat']; omega
  rw [h]
  show (48 + (max m 0) % 10) % 256 = _
  omega
def modesS (first f t : Int) (l : List Ev) : List UInt8 := (List.range (wid f t)).map fun (j : Nat) => digB (modeAt first (f + (j : Int)) l)
def modeG (first f : Int) (l : List Ev) (i j : Nat) : UInt8 := if j < i then digB (modeAt first (f + (j : Int)) l) else 0
theorem mode_set (n : Nat) (first f : Int) (l : List Ev) (i : Nat) : (rg n (modeG first f l i)).set i (digB (modeAt first (f + (i : Int)) l)) = rg n (modeG first f l (i + 1)) := by
  rw [rg_set]
  apply rg_ext; intro j _
  unfold modeG
  by_cases e : j = i
  · rw [if_pos e, if_pos (by omega), e]
  · rw [if_neg e]
    by_cases h : j < i
    · rw [if_pos h, if_pos (by omega)]
    · rw [if_neg h, if_neg (by omega)]
theorem mode_0 {c : Arr UInt8} {n : Nat} (h : c.l = List.replicate n 0) (first f : Int) (l : List Ev) : c.l = rg c.l.length (modeG first f l 0) := by
  rw [h, List.length_replicate, rg_rep]; exact rg_ext fun j _ => by unfold modeG; rw [if_neg (by omega)]
theorem mode_end (first f t : Int) (l : List Ev) : rg (wid f t) (modeG first f l (wid f t)) = modesS first f t l := by
  unfold modesS
  exact rg_ext fun j hj => by unfold modeG; rw [if_pos hj]
def loadL (f t : Int) (l : List Ev) : Nat := (l.filter fun e => decide (e.kind = 1 ∧ f ≤ e.tick ∧ e.tick < t)).length
theorem load_t {f t : Int} {l : List Ev} {i : Nat} {e : Ev} (h : l[i]? = some e) (hc : e.kind = 1 ∧ f ≤ e.tick ∧ e.tick < t) : loadL f t (l.take (i + 1)) = loadL f t (l.take i) + 1 := by
  unfold loadL; rw [List.take_add_one, h, List.filter_append, List.length_append]; simp [hc]
theorem load_f {f t : Int} {l : List Ev} {i : Nat} {e : Ev} (h : l[i]? = some e) (hc : ¬ (e.kind = 1 ∧ f ≤ e.tick ∧ e.tick < t)) : loadL f t (l.take (i + 1)) = loadL f t (l.take i) := by
  unfold loadL; rw [List.take_add_one, h, List.filter_append, List.length_append]
  have : (some e).toList.filter (fun e => decide (e.kind = 1 ∧ f ≤ e.tick ∧ e.tick < t)) = [] := by
    show [e].filter _ = []
    rw [List.filter_cons, if_neg (by rw [decide_eq_true_eq]; exact hc)]; rfl
  rw [this]; rfl
theorem load_le (f t : Int) (l : List Ev) (i : Nat) : loadL f t (l.take i) ≤ i := by
  have := List.length_filter_le (fun e : Ev => decide (e.kind = 1 ∧ f ≤ e.tick ∧ e.tick < t)) (l.take i)
  unfold loadL; rw [List.length_take] at this; omega
def loadE (f t : Int) (L : List (Nat × Ev)) : Nat := (L.filter fun p => decide (f ≤ p.2.tick ∧ p.2.tick < t)).length
theorem loadE_t {f t : Int} {L : List (Nat × Ev)} {i : Nat} {p : Nat × Ev} (h : L[i]? = some p) (hc : f ≤ p.2.tick ∧ p.2.tick < t) : loadE f t (L.take (i + 1)) = loadE f t (L.take i) + 1 := by
  unfold loadE; rw [List.take_add_one, h, List.filter_append, List.length_append]; simp [hc]
theorem loadE_f {f t : Int} {L : List (Nat × Ev)} {i : Nat} {p : Nat × Ev} (h : L[i]? = some p) (hc : ¬ (f ≤ p.2.tick ∧ p.2.tick < t)) : loadE f t (L.take (i + 1)) = loadE f t (L.take i) := by
  unfold loadE; rw [List.take_add_one, h, List.filter_append, List.length_append]
  have : (some p).toList.filter (fun p => decide (f ≤ p.2.tick ∧ p.2.tick < t)) = [] := by
    show [p].filter _ = []
    rw [List.filter_cons, if_neg (by rw [decide_eq_true_eq]; exact hc)]; rfl
  rw [this]; rfl
theorem loadE_le (f t : Int) (L : List (Nat × Ev)) (i : Nat) : loadE f t (L.take i) ≤ i := by
  have := List.length_filter_le (fun p : Nat × Ev => decide (f ≤ p.2.tick ∧ p.2.tick < t)) (L.take i)
  unfold loadE; rw [List.length_take] at this; omega
theorem load_evL (l : List Ev) (f t : Int) : ∀ n, loadE f t (evL l 1 n) = loadL f t (l.take n)
  | 0 => rfl
  | n + 1 => by
    rw [evL]
    have e1 : ∀ a b, loadE f t (a ++ b) = loadE f t a + loadE f t b := fun a b => by unfold loadE; rw [List.filter_append, List.length_append]
    rw [e1, load_evL l f t n]
    cases hq : l[n]? with
    | none =>
      rw [List.take_add_one, hq]; simp [evF, loadE]
    | some e =>
      show _ + loadE f t (if e.kind = 1 then [(n, e)] else []) = _
      by_cases hc : e.kind = 1 ∧ f ≤ e.tick ∧ e.tick < t
      · rw [load_t hq hc, if_pos hc.1]
        have : loadE f t [(n, e)] = 1 := by unfold loadE; simp [hc.2]
        rw [this]
      · rw [load_f hq hc]
        by_cases hk : e.kind = 1
        · rw [if_pos hk]
          have : loadE f t [(n, e)] = 0 := by
            unfold loadE
            rw [List.filter_cons, if_neg (by rw [decide_eq_true_eq]; exact fun c => hc ⟨hk, c⟩)]; rfl
          rw [this]; rfl
        · rw [if_neg hk]; rfl

theorem cmodes (m f t : Int) (l : Arr Ev) (hl : Rd K l.ad (l.l.flatMap encE)) (ht : okC f t l.l) : Ctr Tryd.prog B 13 [.int .i64 m, .agg #[.int .i64 f, .int .i64 t], .slice l.oad l.l.length l.c] [K] (fun v S => v = str (modesS m f t l.l) ∧ S = [K]) := by
  refine Ctr_of_X (N := 45) Tryd.func13 rfl (by simp) rfl ?_
  intro w0 D0
  refine X_seq ?_
  refine X_region ?_
  refine XL_box (cs := [.int .i64 f, .int .i64 t]) .no rfl rfl rfl (fun b1 => ?_)
  refine XL_det .no (D_pure rfl) rfl ?_
  refine XL_then ?_
  refine X_seq ?_
  refine X_region ?_
  refine XL_det .no (D_ldso (vs := [.int .i64 f, .int .i64 t]) rfl (by repeat first | with_reducible exact .here _ _ | with_reducible apply Out.there | with_reducible apply Out.app) tk_25 rfl (by rfl)) rfl ?_
  refine XL_callv .no en_19 rfl (cwide f t ht.f0 ht.t0) rfl ?_
  refine XL_make encB 0 .no rfl rfl slt_29 rfl (by have := wid_le f t; omega) (by have := wid_le f t; omega) rfl (fun c hc hco => ?_)
  have hcl : c.l.length = wid f t := by rw [hc]; simp
  have hwl := wid_le f t
  refine XL_det .no (D_pure rfl) rfl ?_
  refine XL_then ?_
  refine X_seq ?_
  refine X_seq ?_
  refine X_region ?_
  refine XL_det .no (D_pure rfl) rfl ?_
  refine XL_det .no (D_len rfl rfl slc_29) rfl ?_
  refine XL_det .no (D_pure rfl) rfl ?_
  refine XL_then ?_
  refine X_block ?_
  rw [show c.l.flatMap encB = (rg c.l.length (modeG m f l.l 0)).flatMap encB by rw [← mode_0 hc m f l.l]]
  refine X_dfrs_nil ?_
  refine X_loopd (α := Nat × List Nat) (fun ⟨i, dl⟩ => i ≤ c.l.length) (fun ⟨i, dl⟩ => dl) (fun ⟨i, dl⟩ => [(17, .int .i64 (i : Int)), (0, .int .i64 m), (2, .slice l.oad l.l.length l.c), (4, .pointer (some ⟨b1, 0, none⟩)), (7, .slice c.oad c.l.length c.c), (16, .int .i64 (c.l.length : Int))]) (fun ⟨i, dl⟩ => [blk b1 [.int .i64 f, .int .i64 t] 25, row (.slice c.oad c.l.length c.c) 5 1 c.l.length ((rg c.l.length (modeG m f l.l i)).flatMap encB), dfrs dl, K]) (fun ⟨i, dl⟩ => c.l.length - i) (0, []) ?_ rfl (by refine ⟨?_, ?_, ?_, ?_, ?_, ?_, trivial⟩ <;> rfl) (by repeat first | with_reducible exact .nil _ | with_reducible exact .here _ _ | with_reducible exact Take.self _ | with_reducible apply Take.cons | with_reducible apply Out.there | with_reducible apply Take.skip | with_reducible exact Take.pre _ _ | with_reducible apply Out.app) ?_
  · exact Nat.zero_le _
  · rintro ⟨i, dl⟩ hi
    dsimp only
    refine X_seq ?_
    refine X_region ?_
    refine XL_det .no (D_pure rfl) rfl ?_
    refine XL_then ?_
    refine X_seq ?_
    refine X_cond rfl (fun h1 => ?_) (fun h1 => ?_)
    · try simp only [decide_eq_true_eq, decide_eq_false_iff_not, Bool.not_eq_true', Bool.not_eq_false', beq_iff_eq, bne_iff_ne, beq_eq_false_iff_ne, bne_eq_false_iff_eq, Int.not_lt, Int.not_le, gt_iff_lt, ge_iff_le, ne_eq] at h1
      refine X_skip ?_
      refine thenX_normal ?_
      refine X_seq ?_
      refine X_block ?_
      refine X_seq ?_
      refine X_region ?_
      refine XL_det .no (D_pure rfl) rfl ?_
      refine XL_alloc .no zero_3 rfl (fun b2 => ?_)
      refine XL_efd .no (F_stl rfl rfl rfl (by repeat first | with_reducible exact .here _ _ | with_reducible apply Out.there | with_reducible apply Out.app) tk_3 (by repeat first | exact .zero _ _ _ | apply SetL.succ)) ?_
      refine XL_then ?_
      refine X_seq ?_
      refine X_region ?_
      refine XL_det .no (D_pure rfl) rfl ?_
      refine XL_alloc .no zero_3 rfl (fun b3 => ?_)
      refine XL_efd .no (F_stl rfl rfl rfl (by repeat first | with_reducible exact .here _ _ | with_reducible apply Out.there | with_reducible apply Out.app) tk_3 (by repeat first | exact .zero _ _ _ | apply SetL.succ)) ?_
      refine XL_then ?_
      refine X_seq ?_
      refine X_seq ?_
      refine X_region ?_
      refine XL_det .no (D_pure rfl) rfl ?_
      refine XL_call .no en_20 rfl (trOf 8 l) (by repeat first | with_reducible exact .nil _ | with_reducible exact .here _ _ | with_reducible exact Take.self _ | with_reducible apply Take.cons | with_reducible apply Out.there | with_reducible apply Take.skip | with_reducible exact Take.pre _ _ | with_reducible apply Out.app) rfl ?_
      rintro _ _ ⟨bl, bk, rfl, rfl⟩
      simp only [List.cons_append, List.nil_append]
      refine XL_then ?_
      refine X_block ?_
      refine X_conv ?_
      refine X_range (own := [blk bl [.slice l.oad l.l.length l.c] 26, blk bk [.int .i64 8] 36, K]) (S1 := [blk b1 [.int .i64 f, .int .i64 t] 25, blk b2 [.int .i64 (i : Int)] 3, blk b3 [.int .i64 m] 3]) rfl en_24 (trItr bl bk 8 l hl) (fun n S => True ∧ S = [blk b1 [.int .i64 f, .int .i64 t] 25, blk b2 [.int .i64 (i : Int)] 3, blk b3 [.int .i64 (modeE m (f + (i : Int)) ((evL l.l 8 l.l.length).take n))] 3]) (fun c n S => False) (show Take ([blk bl [.slice l.oad l.l.length l.c] 26, blk bk [.int .i64 8] 36, K, blk b1 [.int .i64 f, .int .i64 t] 25, blk b2 [.int .i64 (i : Int)] 3, blk b3 [.int .i64 m] 3]) _ _ from (by repeat first | with_reducible exact .nil _ | with_reducible exact .here _ _ | with_reducible exact Take.self _ | with_reducible apply Take.cons | with_reducible apply Out.there | with_reducible apply Take.skip | with_reducible exact Take.pre _ _ | with_reducible apply Out.app)) (⟨trivial, rfl⟩) rfl (fun x hx => by obtain ⟨y, _, rfl⟩ := List.mem_map.1 hx; rfl) ?_ ?_ ?_
      · intro ly rec A2 n S2 hn hJ
        obtain ⟨_, rfl⟩ := hJ
        rw [List.length_map] at hn
        obtain ⟨p, hp⟩ : ∃ p, (evL l.l 8 l.l.length)[n]? = some p := ⟨_, List.getElem?_eq_getElem hn⟩
        have htk := ht.ev p.2 (evL_mem (List.mem_of_getElem? hp))
        have hff := ht.f0
        rw [evV_get hp]
        refine X_region ?_
        refine XL_alloc (cs := encE zE) .no zero_38 rfl (fun b4 => ?_)
        refine XL_efd .no (F_stw (vs := encE p.2) rfl rfl (by rfl) (by repeat first | with_reducible exact .here _ _ | with_reducible apply Out.there | with_reducible apply Out.app) tk_38 rfl rfl) ?_
        refine XL_nil ?_
        refine ⟨rfl, _, _, .cons (by repeat first | with_reducible exact .here _ _ | with_reducible apply Out.there | with_reducible apply Out.app) (Take.self _), fun rec2 => ?_⟩
        refine X_block ?_
        refine X_seq ?_
        refine X_region ?_
        refine XL_det .no (D_fld rfl fld_38_0 (o' := 0) rfl) rfl ?_
        refine XL_det .no (D_ldo rfl (by repeat first | with_reducible exact .here _ _ | with_reducible apply Out.there | with_reducible apply Out.app) tk_3 (by rfl)) rfl ?_
        refine XL_det .no (D_fld rfl fld_25_0 (o' := 0) rfl) rfl ?_
        refine XL_det .no (D_ldo rfl (by repeat first | with_reducible exact .here _ _ | with_reducible apply Out.there | with_reducible apply Out.app) tk_3 (by rfl)) rfl ?_
        refine XL_det .no (D_ldo rfl (by repeat first | with_reducible exact .here _ _ | with_reducible apply Out.there | with_reducible apply Out.app) tk_3 (by rfl)) rfl ?_
        refine XL_det .no (D_add rfl rfl (by omega) (by omega)) rfl ?_
        refine XL_det .no (D_pure rfl) rfl ?_
        refine XL_then ?_
        refine X_cond rfl (fun h2 => ?_) (fun h2 => ?_)
        · try simp only [decide_eq_true_eq, decide_eq_false_iff_not, Bool.not_eq_true', Bool.not_eq_false', beq_iff_eq, bne_iff_ne, beq_eq_false_iff_ne, bne_eq_false_iff_eq, Int.not_lt, Int.not_le, gt_iff_lt, ge_iff_le, ne_eq] at h2
          refine X_region ?_
          refine XL_det .no (D_fld rfl fld_38_2 (o' := 2) rfl) rfl ?_
          refine XL_det .no (D_ldo rfl (by repeat first | with_reducible exact .here _ _ | with_reducible apply Out.there | with_reducible apply Out.app) tk_3 (by rfl)) rfl ?_
          refine XL_efd .no (F_stl rfl rfl rfl (by repeat first | with_reducible exact .here _ _ | with_reducible apply Out.there | with_reducible apply Out.app) tk_3 (by repeat first | exact .zero _ _ _ | apply SetL.succ)) ?_
          refine XL_nil ?_
          refine inBlk_normal ?_
          rw [show p.2.a = modeE m (f + (i : Int)) ((evL l.l 8 l.l.length).take (n + 1)) by rw [modeE_s hp, if_pos h2]]
          exact ⟨[blk b1 [.int .i64 f, .int .i64 t] 25, blk b2 [.int .i64 (i : Int)] 3, blk b3 [.int .i64 (modeE m (f + (i : Int)) ((evL l.l 8 l.l.length).take (n + 1)))] 3], _, (by repeat first | with_reducible exact .nil _ | with_reducible exact .here _ _ | with_reducible exact Take.self _ | with_reducible apply Take.cons | with_reducible apply Out.there | with_reducible apply Take.skip | with_reducible exact Take.pre _ _ | with_reducible apply Out.app), ⟨trivial, rfl⟩⟩
        · try simp only [decide_eq_true_eq, decide_eq_false_iff_not, Bool.not_eq_true', Bool.not_eq_false', beq_iff_eq, bne_iff_ne, beq_eq_false_iff_ne, bne_eq_false_iff_eq, Int.not_lt, Int.not_le, gt_iff_lt, ge_iff_le, ne_eq] at h2
          refine X_skip ?_
          refine inBlk_normal ?_
          rw [show modeE m (f + (i : Int)) ((evL l.l 8 l.l.length).take n) = modeE m (f + (i : Int)) ((evL l.l 8 l.l.length).take (n + 1)) by rw [modeE_s hp, if_neg (by omega)]]
          exact ⟨[blk b1 [.int .i64 f, .int .i64 t] 25, blk b2 [.int .i64 (i : Int)] 3, blk b3 [.int .i64 (modeE m (f + (i : Int)) ((evL l.l 8 l.l.length).take (n + 1)))] 3], _, (by repeat first | with_reducible exact .nil _ | with_reducible exact .here _ _ | with_reducible exact Take.self _ | with_reducible apply Take.cons | with_reducible apply Out.there | with_reducible apply Take.skip | with_reducible exact Take.pre _ _ | with_reducible apply Out.app), ⟨trivial, rfl⟩⟩
      · intro dd0 S2 hJ
        obtain ⟨_, rfl⟩ := hJ
        rw [List.length_map, List.take_length, mode_evL, List.take_length]
        simp only [List.cons_append, List.nil_append]
        refine ⟨_, fun w hw => St.dfrs_cons (by repeat first | with_reducible exact .nil _ | with_reducible exact .here _ _ | with_reducible exact Take.self _ | with_reducible apply Take.cons | with_reducible apply Out.there | with_reducible apply Take.skip | with_reducible exact Take.pre _ _ | with_reducible apply Out.app) hw, ?_⟩
        refine inBlk_normal ?_
        refine thenX_normal ?_
        refine X_region ?_
        refine XL_det .no (D_pure rfl) rfl ?_
        refine XL_det .no (D_ldo rfl (by repeat first | with_reducible exact .here _ _ | with_reducible apply Out.there | with_reducible apply Out.app) tk_3 (by rfl)) rfl ?_
        refine XL_det .no (D_ldo rfl (by repeat first | with_reducible exact .here _ _ | with_reducible apply Out.there | with_reducible apply Out.app) tk_3 (by rfl)) rfl ?_
        refine XL_det .no (D_max rfl rfl) rfl ?_
        refine XL_det .no (D_divmod (z := (max (modeAt m (f + (i : Int)) l.l) 0) % 10) rfl rfl (by decide) (by rw [Int.tmod_eq_emod_of_nonneg (by omega)])) rfl ?_
        refine XL_det .no (D_add (m := 48) (n := (max (modeAt m (f + (i : Int)) l.l) 0) % 10) rfl rfl (by omega) (by omega)) rfl ?_
        refine XL_det .no (D_cvt (z := ((digB (modeAt m (f + (i : Int)) l.l)).toNat : Int)) rfl cvt_3_5 (digB_wrap _)) rfl ?_
        refine XL_det .no (D_idxSo (j := i) rfl rfl slc_29 (c).nil0 rfl (by omega) rfl) rfl ?_
        refine XL_efd .no (F_rst (enc := encB) (i := i) (y := digB (modeAt m (f + (i : Int)) l.l)) (xs' := rg c.l.length (modeG m f l.l (i + 1))) hco rfl rfl (fun _ => rfl) rfl rfl (by repeat first | with_reducible exact .here _ _ | with_reducible apply Out.there | with_reducible apply Out.app) tk_5 (by rw [rg_len]; omega) (mode_set _ _ _ _ _)) ?_
        refine XL_nil ?_
        refine inBlk_normal ?_
        refine thenX_normal ?_
        refine X_region ?_
        refine XL_det .no (D_add rfl rfl (by omega) (by omega)) rfl ?_
        refine XL_det .no (D_pure rfl) rfl ?_
        refine XL_nil ?_
        refine loopQd_next (i + 1, dd0 :: dl) rfl ?_ ?_ ?_ ?_
        · (try dsimp only); omega
        · (try dsimp only); omega
        · refine ⟨?_, ?_, ?_, ?_, ?_, ?_, trivial⟩ <;> rfl
        · (try dsimp only); exact ⟨_, (by repeat first | with_reducible exact .nil _ | with_reducible exact .here _ _ | with_reducible exact Take.self _ | with_reducible apply Take.cons | with_reducible apply Out.there | with_reducible apply Take.skip | with_reducible exact Take.pre _ _ | with_reducible apply Out.app)⟩
      · intro dd0 c i S2 hi h
        exact h.elim
    · try simp only [decide_eq_true_eq, decide_eq_false_iff_not, Bool.not_eq_true', Bool.not_eq_false', beq_iff_eq, bne_iff_ne, beq_eq_false_iff_ne, bne_eq_false_iff_eq, Int.not_lt, Int.not_le, gt_iff_lt, ge_iff_le, ne_eq] at h1
      have hie : i = wid f t := by omega
      refine X_undfrs (by repeat first | with_reducible exact .nil _ | with_reducible exact .here _ _ | with_reducible exact Take.self _ | with_reducible apply Take.cons | with_reducible apply Out.there | with_reducible apply Take.skip | with_reducible exact Take.pre _ _ | with_reducible apply Out.app) ?_
      refine X_exit ?_
      refine thenX_exit ?_
      refine loopQd_exit ?_
      refine inBlk_here ?_
      refine thenX_normal ?_
      refine X_seq ?_
      refine X_region ?_
      refine XL_det .no (D_pure rfl) rfl ?_
      refine XL_det .no (D_bstr (a := c) (l := rg c.l.length (modeG m f l.l i)) rfl (by repeat first | with_reducible exact .here _ _ | with_reducible apply Out.there | with_reducible apply Out.app) (Rd_rowx hco rfl (rg_len _ _)) (rg_len _ _) bstr_29_9) rfl ?_
      refine XL_det .no (D_pure rfl) rfl ?_
      refine XL_then ?_
      refine X_ret ?_
      refine ret_ok (show Take (List.map dfr dl) _ _ from Take.pre _ _) (res_tmp rfl rfl) ?_
      exact ⟨_, ⟨by rw [hcl, hie, mode_end], rfl⟩, _, (by repeat first | with_reducible exact .nil _ | with_reducible exact .here _ _ | with_reducible exact Take.self _ | with_reducible apply Take.cons | with_reducible apply Out.there | with_reducible apply Take.skip | with_reducible exact Take.pre _ _ | with_reducible apply Out.app)⟩

end Go.Proofs.YtjcpggoodbkedaaDoor
end

section
namespace Go.Proofs.YtjcpggoodbkedaaDoor
open Go Go.Sl
set_option linter.unusedVariables false
set_option linter.unusedSimpArgs false
set_option maxRecDepth 4000
variable {B : Nat} {K : Asrt B}
theorem bld_25 : bldOf Tryd.prog 25 = some ([.int .i64 0, .int .i64 0], [(0, 1), (1, 1)]) := by kernel_rfl
theorem bld_38 : bldOf Tryd.prog 38 = some ([.int .i64 0, .int .i64 0, .int .i64 0, .int .i64 0], [(0, 1), (1, 1), (2, 1), (3, 1)]) := by kernel_rfl
theorem en_11 : Go.Proofs.Enters Tryd.prog 11 := Go.Proofs.enters_of Tryd.func11 (by kernel_rfl) rfl
theorem en_13 : Go.Proofs.Enters Tryd.prog 13 := Go.Proofs.enters_of Tryd.func13 (by kernel_rfl) rfl
theorem en_15 : Go.Proofs.Enters Tryd.prog 15 := Go.Proofs.enters_of Tryd.func15 (by kernel_rfl) rfl
theorem en_16 : Go.Proofs.Enters Tryd.prog 16 := Go.Proofs.enters_of Tryd.func16 (by kernel_rfl) rfl
theorem en_17 : Go.Proofs.Enters Tryd.prog 17 := Go.Proofs.enters_of Tryd.func17 (by kernel_rfl) rfl
theorem en_18 : Go.Proofs.Enters Tryd.prog 18 := Go.Proofs.enters_of Tryd.func18 (by kernel_rfl) rfl
theorem en_21 : Go.Proofs.Enters Tryd.prog 21 := Go.Proofs.enters_of Tryd.func21 (by kernel_rfl) rfl
theorem slt_26 : slT Tryd.prog 26 = some (38, 4, 32, [.int .i64 0, .int .i64 0, .int .i64 0, .int .i64 0]) := by kernel_rfl
theorem tk_9 : tyK Tryd.prog 9 = some (false, 1) := by kernel_rfl
theorem us_9 : Tryd.prog.underlying 9 = some .string := by kernel_rfl
theorem zero_9 : zeroOf Tryd.prog 9 = some [.string ByteArray.empty] := by kernel_rfl

def lineC (k f t : Int) (l : List Ev) : List UInt8 := (if k < 10 then [32] else []) ++ txt k ++ [124] ++ rowS k f t l ++ [10]
def drawS (s : BitVec 32) (f t : Int) (l : List Ev) : List UInt8 := (listI (belowV s 16)).flatMap fun k => lineC k f t l
theorem lineC_len (k f t : Int) (l : List Ev) : (lineC k f t l).length ≤ 270 := by
  have h1 := txt_len k; have h2 := rowS_len k f t l
  unfold lineC
  have : (if k < 10 then ([32] : List UInt8) else []).length ≤ 1 := by split <;> simp
  simp only [List.length_append, List.length_cons, List.length_nil]; omega
theorem flatC_len (f t : Int) (l : List Ev) : ∀ L : List Int, (L.flatMap fun k => lineC k f t l).length ≤ 270 * L.length
  | [] => by simp
  | k :: L => by
    have h1 := flatC_len f t l L; have h2 := lineC_len k f t l
    rw [List.flatMap_cons, List.length_append, List.length_cons]; omega
theorem flatC_s {f t : Int} {l : List Ev} {L : List Int} {i : Nat} {k : Int} (h : L[i]? = some k) : ((L.take (i + 1)).flatMap fun k => lineC k f t l) = ((L.take i).flatMap fun k => lineC k f t l) ++ lineC k f t l := by
  rw [List.take_add_one, h, List.flatMap_append]; simp
theorem flatC_take (f t : Int) (l : List Ev) (s : BitVec 32) (i : Nat) : (((listI s).take i).flatMap fun k => lineC k f t l).length ≤ 8640 := by
  have h1 := flatC_len f t l ((listI s).take i)
  have h2 : ((listI s).take i).length ≤ 32 := by rw [List.length_take]; have := listN_len s 32; unfold listI; omega
  omega
theorem below16 {s : BitVec 32} {k : Int} (h : k ∈ listI (belowV s 16)) : 0 ≤ k ∧ k < 16 := by
  obtain ⟨h1, h2, h3⟩ := mem_listN.1 h
  refine ⟨h1, ?_⟩
  obtain ⟨j, rfl⟩ := Int.eq_ofNat_of_zero_le h1
  rw [hasB_below s 16 j (by omega)] at h3
  simp at h3; exact h3.2
def linesTo (s : BitVec 32) (f t : Int) (l : List Ev) : Nat → List UInt8
  | 0 => []
  | n + 1 => linesTo s f t l n ++ if hasB s (n : Int) then lineC n f t l else []
theorem linesTo_len (s : BitVec 32) (f t : Int) (l : List Ev) : ∀ n, (linesTo s f t l n).length ≤ 270 * n
  | 0 => by simp [linesTo]
  | n + 1 => by
    have h1 := linesTo_len s f t l n; have h2 := lineC_len n f t l
    rw [linesTo, List.length_append]
    split
    · omega
    · simp; omega
theorem draw_to (s : BitVec 32) (f t : Int) (l : List Ev) : drawS s f t l = linesTo s f t l 16 := by
  have key : ∀ n, n ≤ 32 → ((listN (belowV s 16) n).flatMap fun k => lineC k f t l) = linesTo s f t l (min n 16) := by
    intro n
    induction n with
    | zero => intro _; rfl
    | succ n ih =>
      intro hn
      rw [listN_s, List.flatMap_append, ih (by omega), hasB_below s 16 n (by omega)]
      by_cases h : n < 16
      · rw [show min (n + 1) 16 = n + 1 by omega, show min n 16 = n by omega, linesTo]
        have : decide ((n : Int) < 16) = true := decide_eq_true (by omega)
        rw [this, Bool.and_true]
        cases hasB s (n : Int) <;> simp
      · rw [show min (n + 1) 16 = 16 by omega, show min n 16 = 16 by omega]
        have : decide ((n : Int) < 16) = false := decide_eq_false (by omega)
        rw [this, Bool.and_false]; simp
  exact key 32 (Nat.le_refl _)

theorem cload (f t : Int) (l : Arr Ev) (hl : Rd K l.ad (l.l.flatMap encE)) (ht : okC f t l.l) : Ctr Tryd.prog B 14 [.agg #[.int .i64 f, .int .i64 t], .slice l.oad l.l.length l.c] [K] (fun v S => v = .int .i64 (loadL f t l.l : Int) ∧ S = [K]) := by
  refine Ctr_of_X (N := 27) Tryd.func14 rfl (by simp) rfl ?_
  intro w0 D0
  refine X_seq ?_
  refine X_region ?_
  refine XL_box (cs := [.int .i64 f, .int .i64 t]) .no rfl rfl rfl (fun b1 => ?_)
  refine XL_det .no (D_pure rfl) rfl ?_
  refine XL_then ?_
  refine X_seq ?_
  refine X_region ?_
  refine XL_alloc .no zero_3 rfl (fun b2 => ?_)
  refine XL_efd .no (F_stl rfl rfl rfl (by repeat first | with_reducible exact .here _ _ | with_reducible apply Out.there | with_reducible apply Out.app) tk_3 (by repeat first | exact .zero _ _ _ | apply SetL.succ)) ?_
  refine XL_then ?_
  refine X_seq ?_
  refine X_seq ?_
  refine X_region ?_
  refine XL_det .no (D_pure rfl) rfl ?_
  refine XL_call .no en_20 rfl (trOf 1 l) (by repeat first | with_reducible exact .nil _ | with_reducible exact .here _ _ | with_reducible exact Take.self _ | with_reducible apply Take.cons | with_reducible apply Out.there | with_reducible apply Take.skip | with_reducible exact Take.pre _ _ | with_reducible apply Out.app) rfl ?_
  rintro _ _ ⟨bl, bk, rfl, rfl⟩
  simp only [List.cons_append, List.nil_append]
  refine XL_then ?_
  refine X_block ?_
  refine X_range (own := [blk bl [.slice l.oad l.l.length l.c] 26, blk bk [.int .i64 1] 36, K]) (S1 := [blk b1 [.int .i64 f, .int .i64 t] 25, blk b2 [.int .i64 0] 3]) rfl en_24 (trItr bl bk 1 l hl) (fun i S => True ∧ S = [blk b1 [.int .i64 f, .int .i64 t] 25, blk b2 [.int .i64 (loadE f t ((evL l.l 1 l.l.length).take i) : Int)] 3]) (fun c i S => False) (show Take ([blk bl [.slice l.oad l.l.length l.c] 26, blk bk [.int .i64 1] 36, K, blk b1 [.int .i64 f, .int .i64 t] 25, blk b2 [.int .i64 0] 3]) _ _ from (by repeat first | with_reducible exact .nil _ | with_reducible exact .here _ _ | with_reducible exact Take.self _ | with_reducible apply Take.cons | with_reducible apply Out.there | with_reducible apply Take.skip | with_reducible exact Take.pre _ _ | with_reducible apply Out.app)) (⟨trivial, rfl⟩) rfl (fun x hx => by obtain ⟨y, _, rfl⟩ := List.mem_map.1 hx; rfl) ?_ ?_ ?_
  · intro ly rec A2 i S2 hi hJ
    obtain ⟨_, rfl⟩ := hJ
    rw [List.length_map] at hi
    obtain ⟨p, hp⟩ : ∃ p, (evL l.l 1 l.l.length)[i]? = some p := ⟨_, List.getElem?_eq_getElem hi⟩
    have hlo := loadE_le f t (evL l.l 1 l.l.length) i
    have hel := evL_len l.l 1 l.l.length
    have hll := ht.len
    rw [evV_get hp]
    refine X_region ?_
    refine XL_alloc (cs := encE zE) .no zero_38 rfl (fun b3 => ?_)
    refine XL_efd .no (F_stw (vs := encE p.2) rfl rfl (by rfl) (by repeat first | with_reducible exact .here _ _ | with_reducible apply Out.there | with_reducible apply Out.app) tk_38 rfl rfl) ?_
    refine XL_nil ?_
    refine ⟨rfl, _, _, .cons (by repeat first | with_reducible exact .here _ _ | with_reducible apply Out.there | with_reducible apply Out.app) (Take.self _), fun rec2 => ?_⟩
    refine X_block ?_
    refine X_seq ?_
    refine X_region ?_
    refine XL_det .no (D_fld rfl fld_38_0 (o' := 0) rfl) rfl ?_
    refine XL_det .no (D_ldo rfl (by repeat first | with_reducible exact .here _ _ | with_reducible apply Out.there | with_reducible apply Out.app) tk_3 (by rfl)) rfl ?_
    refine XL_det .no (D_fld rfl fld_25_0 (o' := 0) rfl) rfl ?_
    refine XL_det .no (D_ldo rfl (by repeat first | with_reducible exact .here _ _ | with_reducible apply Out.there | with_reducible apply Out.app) tk_3 (by rfl)) rfl ?_
    refine XL_det .no (D_pure rfl) rfl ?_
    refine XL_det .no (D_pure rfl) rfl ?_
    refine XL_split (t := 17) rfl (fun h1 => ?_) (fun h1 => ?_)
    · try simp only [decide_eq_true_eq, decide_eq_false_iff_not, Bool.not_eq_true', Bool.not_eq_false', beq_iff_eq, bne_iff_ne, beq_eq_false_iff_ne, bne_eq_false_iff_eq, Int.not_lt, Int.not_le, gt_iff_lt, ge_iff_le, ne_eq] at h1
      refine XL_det (.yes 17 rfl rfl rfl) (D_fld rfl fld_38_0 (o' := 0) rfl) rfl ?_
      refine XL_det (.yes 17 rfl rfl rfl) (D_ldo rfl (by repeat first | with_reducible exact .here _ _ | with_reducible apply Out.there | with_reducible apply Out.app) tk_3 (by rfl)) rfl ?_
      refine XL_det (.yes 17 rfl rfl rfl) (D_fld rfl fld_25_1 (o' := 1) rfl) rfl ?_
      refine XL_det (.yes 17 rfl rfl rfl) (D_ldo rfl (by repeat first | with_reducible exact .here _ _ | with_reducible apply Out.there | with_reducible apply Out.app) tk_3 (by rfl)) rfl ?_
      refine XL_det (.yes 17 rfl rfl rfl) (D_pure rfl) rfl ?_
      refine XL_det .no (D_pure rfl) rfl ?_
      refine XL_then ?_
      refine X_cond rfl (fun h2 => ?_) (fun h2 => ?_)
      · try simp only [decide_eq_true_eq, decide_eq_false_iff_not, Bool.not_eq_true', Bool.not_eq_false', beq_iff_eq, bne_iff_ne, beq_eq_false_iff_ne, bne_eq_false_iff_eq, Int.not_lt, Int.not_le, gt_iff_lt, ge_iff_le, ne_eq] at h2
        refine X_region ?_
        refine XL_det .no (D_ldo rfl (by repeat first | with_reducible exact .here _ _ | with_reducible apply Out.there | with_reducible apply Out.app) tk_3 (by rfl)) rfl ?_
        refine XL_det .no (D_add rfl rfl (by omega) (by omega)) rfl ?_
        refine XL_efd .no (F_stl rfl rfl rfl (by repeat first | with_reducible exact .here _ _ | with_reducible apply Out.there | with_reducible apply Out.app) tk_3 (by repeat first | exact .zero _ _ _ | apply SetL.succ)) ?_
        refine XL_nil ?_
        refine inBlk_normal ?_
        rw [show ((loadE f t ((evL l.l 1 l.l.length).take i) : Int) + 1) = (loadE f t ((evL l.l 1 l.l.length).take (i + 1)) : Int) by rw [loadE_t hp ⟨h1, h2⟩]; rfl]
        exact ⟨[blk b1 [.int .i64 f, .int .i64 t] 25, blk b2 [.int .i64 (loadE f t ((evL l.l 1 l.l.length).take (i + 1)) : Int)] 3], _, (by repeat first | with_reducible exact .nil _ | with_reducible exact .here _ _ | with_reducible exact Take.self _ | with_reducible apply Take.cons | with_reducible apply Out.there | with_reducible apply Take.skip | with_reducible exact Take.pre _ _ | with_reducible apply Out.app), ⟨trivial, rfl⟩⟩
      · try simp only [decide_eq_true_eq, decide_eq_false_iff_not, Bool.not_eq_true', Bool.not_eq_false', beq_iff_eq, bne_iff_ne, beq_eq_false_iff_ne, bne_eq_false_iff_eq, Int.not_lt, Int.not_le, gt_iff_lt, ge_iff_le, ne_eq] at h2
        refine X_skip ?_
        refine inBlk_normal ?_
        rw [← loadE_f hp (by omega)]
        exact ⟨[blk b1 [.int .i64 f, .int .i64 t] 25, blk b2 [.int .i64 (loadE f t ((evL l.l 1 l.l.length).take (i + 1)) : Int)] 3], _, (by repeat first | with_reducible exact .nil _ | with_reducible exact .here _ _ | with_reducible exact Take.self _ | with_reducible apply Take.cons | with_reducible apply Out.there | with_reducible apply Take.skip | with_reducible exact Take.pre _ _ | with_reducible apply Out.app), ⟨trivial, rfl⟩⟩
    · try simp only [decide_eq_true_eq, decide_eq_false_iff_not, Bool.not_eq_true', Bool.not_eq_false', beq_iff_eq, bne_iff_ne, beq_eq_false_iff_ne, bne_eq_false_iff_eq, Int.not_lt, Int.not_le, gt_iff_lt, ge_iff_le, ne_eq] at h1
      refine XL_skip 17 rfl rfl rfl rfl rfl ?_
      refine XL_skip 17 rfl rfl rfl rfl rfl ?_
      refine XL_skip 17 rfl rfl rfl rfl rfl ?_
      refine XL_skip 17 rfl rfl rfl rfl rfl ?_
      refine XL_skip 17 rfl rfl rfl rfl rfl ?_
      refine XL_det .no (D_pure rfl) rfl ?_
      refine XL_then ?_
      refine X_cond_f rfl rfl ?_
      refine X_skip ?_
      refine inBlk_normal ?_
      rw [← loadE_f hp (by omega)]
      exact ⟨[blk b1 [.int .i64 f, .int .i64 t] 25, blk b2 [.int .i64 (loadE f t ((evL l.l 1 l.l.length).take (i + 1)) : Int)] 3], _, (by repeat first | with_reducible exact .nil _ | with_reducible exact .here _ _ | with_reducible exact Take.self _ | with_reducible apply Take.cons | with_reducible apply Out.there | with_reducible apply Take.skip | with_reducible exact Take.pre _ _ | with_reducible apply Out.app), ⟨trivial, rfl⟩⟩
  · intro dd0 S2 hJ
    obtain ⟨_, rfl⟩ := hJ
    rw [List.length_map, List.take_length, load_evL, List.take_length]
    simp only [List.cons_append, List.nil_append]
    refine inBlk_normal ?_
    refine thenX_normal ?_
    refine X_seq ?_
    refine X_region ?_
    refine XL_det .no (D_ldo rfl (by repeat first | with_reducible exact .here _ _ | with_reducible apply Out.there | with_reducible apply Out.app) tk_3 (by rfl)) rfl ?_
    refine XL_det .no (D_pure rfl) rfl ?_
    refine XL_then ?_
    refine X_ret ?_
    refine ret_ok (show Take [dfr dd0] _ _ from (by repeat first | with_reducible exact .nil _ | with_reducible exact .here _ _ | with_reducible exact Take.self _ | with_reducible apply Take.cons | with_reducible apply Out.there | with_reducible apply Take.skip | with_reducible exact Take.pre _ _ | with_reducible apply Out.app)) (res_tmp rfl rfl) ?_
    exact ⟨_, ⟨rfl, rfl⟩, _, (by repeat first | with_reducible exact .nil _ | with_reducible exact .here _ _ | with_reducible exact Take.self _ | with_reducible apply Take.cons | with_reducible apply Out.there | with_reducible apply Take.skip | with_reducible exact Take.pre _ _ | with_reducible apply Out.app)⟩
  · intro dd0 c i S2 hi h
    exact h.elim

theorem cdraw (s : BitVec 32) (f t : Int) (l : Arr Ev) {K2 : Asrt B} (hl : Rd K2 l.ad (l.l.flatMap encE)) (ht : okC f t l.l) (hK : Rd K ⟨0, 0, none⟩ (tab32.map fun m => .int .u8 m)) : Ctr Tryd.prog B 11 [.int .u32 s.toNat, .agg #[.int .i64 f, .int .i64 t], .slice l.oad l.l.length l.c] [K, K2] (fun v S => v = str (drawS s f t l.l) ∧ S = [K, K2]) := by
  refine Ctr_of_X (N := 32) Tryd.func11 rfl (by simp) rfl ?_
  intro w0 D0
  refine X_seq ?_
  refine X_region ?_
  refine XL_box (cs := [.int .i64 f, .int .i64 t]) .no rfl rfl rfl (fun b1 => ?_)
  refine XL_box .no rfl rfl rfl (fun b2 => ?_)
  refine XL_det .no (D_pure rfl) rfl ?_
  refine XL_then ?_
  refine X_seq ?_
  refine X_region ?_
  refine XL_alloc .no zero_9 rfl (fun b3 => ?_)
  refine XL_efd .no (F_stl rfl rfl rfl (by repeat first | with_reducible exact .here _ _ | with_reducible apply Out.there | with_reducible apply Out.app) tk_9 (by repeat first | exact .zero _ _ _ | apply SetL.succ)) ?_
  refine XL_then ?_
  refine X_seq ?_
  refine X_seq ?_
  refine X_region ?_
  refine XL_det .no (D_pure rfl) rfl ?_
  refine XL_callv .no en_15 rfl (mBelow s 16) rfl ?_
  refine XL_call .no en_16 rfl (mAll (belowV s 16)) (by repeat first | with_reducible exact .nil _ | with_reducible exact .here _ _ | with_reducible exact Take.self _ | with_reducible apply Take.cons | with_reducible apply Out.there | with_reducible apply Take.skip | with_reducible exact Take.pre _ _ | with_reducible apply Out.app) rfl ?_
  rintro _ _ ⟨bs, rfl, rfl⟩
  simp only [List.cons_append, List.nil_append]
  refine XL_then ?_
  refine X_block ?_
  refine X_range (own := [blk bs [.int .u32 (belowV s 16).toNat] 23, K]) (S1 := [blk b1 [.int .i64 f, .int .i64 t] 25, blk b2 [.slice l.oad l.l.length l.c] 26, blk b3 [str ([])] 9, K2]) rfl en_21 (allItr bs (belowV s 16) hK) (fun i S => True ∧ S = [blk b1 [.int .i64 f, .int .i64 t] 25, blk b2 [.slice l.oad l.l.length l.c] 26, blk b3 [str (((listI (belowV s 16)).take i).flatMap fun k => lineC k f t l.l)] 9, K2]) (fun c i S => False) (show Take ([blk bs [.int .u32 (belowV s 16).toNat] 23, K, blk b1 [.int .i64 f, .int .i64 t] 25, blk b2 [.slice l.oad l.l.length l.c] 26, blk b3 [str ([])] 9, K2]) _ _ from (by repeat first | with_reducible exact .nil _ | with_reducible exact .here _ _ | with_reducible exact Take.self _ | with_reducible apply Take.cons | with_reducible apply Out.there | with_reducible apply Take.skip | with_reducible exact Take.pre _ _ | with_reducible apply Out.app)) (⟨trivial, rfl⟩) rfl (fun x hx => by obtain ⟨y, _, rfl⟩ := List.mem_map.1 hx; rfl) ?_ ?_ ?_
  · intro ly rec A2 i S2 hi hJ
    obtain ⟨_, rfl⟩ := hJ
    rw [List.length_map] at hi
    obtain ⟨k, hget⟩ : ∃ m, (listI (belowV s 16))[i]? = some m := ⟨_, List.getElem?_eq_getElem hi⟩
    have hk := below16 (List.mem_of_getElem? hget)
    have hfl := flatC_take f t l.l (belowV s 16) i
    have g1 := txt_len k
    have g2 := rowS_len k f t l.l
    have g3 : (if k < 10 then ([32] : List UInt8) else []).length ≤ 1 := by split <;> simp
    rw [map_get hget]
    refine X_region ?_
    refine XL_det .no (D_pure rfl) rfl ?_
    refine XL_nil ?_
    refine ⟨rfl, _, _, .cons (by repeat first | with_reducible exact .here _ _ | with_reducible apply Out.there | with_reducible apply Out.app) (Take.self _), fun rec2 => ?_⟩
    refine X_block ?_
    refine X_seq ?_
    refine X_region ?_
    refine XL_det .no (D_pure rfl) rfl ?_
    refine XL_callv .no en_17 rfl (dtext k) rfl ?_
    refine XL_det .no (D_pure rfl) rfl ?_
    refine XL_then ?_
    refine X_seqj (α := List UInt8) (fun z => z = (if k < 10 then [32] else []) ++ txt k) (fun z => [(9, str z), (4, .pointer (some ⟨b1, 0, none⟩)), (5, .pointer (some ⟨b2, 0, none⟩)), (7, .pointer (some ⟨b3, 0, none⟩)), (8, .int .i64 k)]) (fun z => [obj ly (.loop rec2), blk b1 [.int .i64 f, .int .i64 t] 25, blk b2 [.slice l.oad l.l.length l.c] 26, blk b3 [str (((listI (belowV s 16)).take i).flatMap fun k => lineC k f t l.l)] 9, K2]) ?_ ?_
    · skip
      refine X_seq ?_
      refine X_region ?_
      refine XL_det .no (D_pure rfl) rfl ?_
      refine XL_det .no (D_slen rfl rfl us_9) rfl ?_
      refine XL_det .no (D_pure rfl) rfl ?_
      refine XL_then ?_
      refine X_cond rfl (fun h1 => ?_) (fun h1 => ?_)
      · try simp only [decide_eq_true_eq, decide_eq_false_iff_not, Bool.not_eq_true', Bool.not_eq_false', beq_iff_eq, bne_iff_ne, beq_eq_false_iff_ne, bne_eq_false_iff_eq, Int.not_lt, Int.not_le, gt_iff_lt, ge_iff_le, ne_eq] at h1
        refine X_region ?_
        refine XL_det .no (D_pure rfl) rfl ?_
        refine XL_det .no (D_scat (a := [32]) rfl rfl (by simp only [List.length_append, List.length_cons, List.length_nil]; omega)) rfl ?_
        refine XL_det .no (D_pure rfl) rfl ?_
        refine XL_nil ?_
        refine joinQ_normal ([32] ++ txt k) ?_ ?_ ?_
        · rw [if_pos (by apply Classical.byContradiction; intro hh; have := txt16 (n := k.toNat) (by omega) (by omega); rw [Int.toNat_of_nonneg hk.1] at this; omega)]
        · refine ⟨?_, ?_, ?_, ?_, ?_, trivial⟩ <;> rfl
        · exact ⟨_, (by repeat first | with_reducible exact .nil _ | with_reducible exact .here _ _ | with_reducible exact Take.self _ | with_reducible apply Take.cons | with_reducible apply Out.there | with_reducible apply Take.skip | with_reducible exact Take.pre _ _ | with_reducible apply Out.app)⟩
      · try simp only [decide_eq_true_eq, decide_eq_false_iff_not, Bool.not_eq_true', Bool.not_eq_false', beq_iff_eq, bne_iff_ne, beq_eq_false_iff_ne, bne_eq_false_iff_eq, Int.not_lt, Int.not_le, gt_iff_lt, ge_iff_le, ne_eq] at h1
        refine X_skip ?_
        refine joinQ_normal (txt k) ?_ ?_ ?_
        · rw [if_neg (by intro hh; have := txt10 (n := k.toNat) (by omega); rw [Int.toNat_of_nonneg hk.1] at this; omega)]; rfl
        · refine ⟨?_, ?_, ?_, ?_, ?_, trivial⟩ <;> rfl
        · exact ⟨_, (by repeat first | with_reducible exact .nil _ | with_reducible exact .here _ _ | with_reducible exact Take.self _ | with_reducible apply Take.cons | with_reducible apply Out.there | with_reducible apply Take.skip | with_reducible exact Take.pre _ _ | with_reducible apply Out.app)⟩
    · rintro z rfl
      refine X_draw _ mixed (Take.self _) ?_
      refine XA_det 0 rfl (by kernel_rfl) (by kernel_rfl) (by kernel_rfl) (by kernel_rfl) (fun _ _ _ _ h => h) .no (D_ldo rfl (by repeat first | with_reducible exact .here _ _ | with_reducible apply Out.there | with_reducible apply Out.app) tk_9 (by rfl)) rfl ?_
      refine XA_detp 1 rfl (by kernel_rfl) (by kernel_rfl) (by kernel_rfl) (fun _ _ _ _ h => h) .no (D_pureP rfl) rfl ?_
      refine XA_det 2 rfl (by kernel_rfl) (by kernel_rfl) (by kernel_rfl) (by kernel_rfl) (fun _ _ _ _ h => h) .no (D_scat (b := [124]) rfl rfl (by simp only [List.length_append, List.length_cons, List.length_nil]; omega)) rfl ?_
      refine XA_detp 3 rfl (by kernel_rfl) (by kernel_rfl) (by kernel_rfl) (fun _ _ _ _ h => h) .no (D_pureP rfl) rfl ?_
      refine XA_det 4 rfl (by kernel_rfl) (by kernel_rfl) (by kernel_rfl) (by kernel_rfl) (fun _ _ _ _ h => h) .no (D_ldso (vs := [.int .i64 f, .int .i64 t]) rfl (by repeat first | with_reducible exact .here _ _ | with_reducible apply Out.there | with_reducible apply Out.app) tk_25 rfl (by rfl)) rfl ?_
      refine XA_det 5 rfl (by kernel_rfl) (by kernel_rfl) (by kernel_rfl) (by kernel_rfl) (fun _ _ _ _ h => h) .no (D_ldo rfl (by repeat first | with_reducible exact .here _ _ | with_reducible apply Out.there | with_reducible apply Out.app) tk_26 (by rfl)) rfl ?_
      refine XA_one 6 (by kernel_rfl) ?_
      refine XO_callk rfl .no en_18 rfl (by repeat first | with_reducible exact .nil _ | with_reducible apply App.cons) (crow k f t l hl ht) (by repeat first | with_reducible exact .nil _ | with_reducible exact .here _ _ | with_reducible exact Take.self _ | with_reducible apply Take.cons | with_reducible apply Out.there | with_reducible apply Take.skip | with_reducible exact Take.pre _ _ | with_reducible apply Out.app) rfl ?_
      refine XA_det 7 rfl (by kernel_rfl) (by kernel_rfl) (by kernel_rfl) (by kernel_rfl) (fun _ _ _ _ h => h) .no (D_scat rfl rfl (by simp only [List.length_append, List.length_cons, List.length_nil]; omega)) rfl ?_
      refine XA_det 8 rfl (by kernel_rfl) (by kernel_rfl) (by kernel_rfl) (by kernel_rfl) (fun _ _ _ _ h => h) .no (D_scat (b := [10]) rfl rfl (by simp only [List.length_append, List.length_cons, List.length_nil]; omega)) rfl ?_
      refine XA_det 9 rfl (by kernel_rfl) (by kernel_rfl) (by kernel_rfl) (by kernel_rfl) (fun _ _ _ _ h => h) .no (D_scat rfl rfl (by simp only [List.length_append, List.length_cons, List.length_nil]; omega)) rfl ?_
      refine XA_one 10 (by kernel_rfl) ?_
      refine XO_efd rfl .no (by repeat first | with_reducible exact .nil _ | with_reducible apply App.cons) (F_st (k := 0) (cs' := [str (((listI (belowV s 16)).take (i + 1)).flatMap fun k => lineC k f t l.l)]) rfl rfl rfl (by repeat first | with_reducible exact .here _ _ | with_reducible apply Out.there | with_reducible apply Out.app) tk_9 rfl (by show [str _] = _; rw [flatC_s hget]; unfold lineC; simp only [List.append_assoc])) (by kernel_rfl) ?_
      refine XA_done (by kernel_rfl) ?_
      try simp only [List.cons_append, List.nil_append, List.append_nil]
      refine inBlk_normal ?_
      exact ⟨[blk b1 [.int .i64 f, .int .i64 t] 25, blk b2 [.slice l.oad l.l.length l.c] 26, blk b3 [str (((listI (belowV s 16)).take (i + 1)).flatMap fun k => lineC k f t l.l)] 9, K2], _, (by repeat first | with_reducible exact .nil _ | with_reducible exact .here _ _ | with_reducible exact Take.self _ | with_reducible apply Take.cons | with_reducible apply Out.there | with_reducible apply Take.skip | with_reducible exact Take.pre _ _ | with_reducible apply Out.app), ⟨trivial, rfl⟩⟩
  · intro dd0 S2 hJ
    obtain ⟨_, rfl⟩ := hJ
    rw [List.length_map, List.take_length]
    simp only [List.cons_append, List.nil_append]
    refine inBlk_normal ?_
    refine thenX_normal ?_
    refine X_seq ?_
    refine X_region ?_
    refine XL_det .no (D_ldo rfl (by repeat first | with_reducible exact .here _ _ | with_reducible apply Out.there | with_reducible apply Out.app) tk_9 (by rfl)) rfl ?_
    refine XL_det .no (D_pure rfl) rfl ?_
    refine XL_then ?_
    refine X_ret ?_
    refine ret_ok (show Take [dfr dd0] _ _ from (by repeat first | with_reducible exact .nil _ | with_reducible exact .here _ _ | with_reducible exact Take.self _ | with_reducible apply Take.cons | with_reducible apply Out.there | with_reducible apply Take.skip | with_reducible exact Take.pre _ _ | with_reducible apply Out.app)) (res_tmp rfl rfl) ?_
    exact ⟨_, ⟨rfl, rfl⟩, _, (by repeat first | with_reducible exact .nil _ | with_reducible exact .here _ _ | with_reducible exact Take.self _ | with_reducible apply Take.cons | with_reducible apply Out.there | with_reducible apply Take.skip | with_reducible exact Take.pre _ _ | with_reducible apply Out.app)⟩
  · intro dd0 c i S2 hi h
    exact h.elim


abbrev e41 : List Ev := [⟨0, 2, 0, 0⟩, ⟨1, 1, 0, 0⟩, ⟨2, 3, 0, 0⟩]
theorem draw41 : drawS 1#32 0 4 e41 = [32, 48, 124, 46, 35, 32, 32, 10] := by kernel_rfl
theorem modes41 : modesS 3 0 2 e41 = [51, 51] := by kernel_rfl
theorem ok41 (t : Int) (h : 0 ≤ t ∧ t ≤ 1073741824) : okC 0 t e41 := ⟨by decide, by decide, h, fun e he => by
  simp only [List.mem_cons, List.not_mem_nil, or_false] at he
  rcases he with rfl | rfl | rfl <;> decide⟩

theorem alive41 (hK : Rd K ⟨0, 0, none⟩ (tab32.map fun m => .int .u8 m)) : Ctr Tryd.prog B 12 [] [K] (fun v S => v = .bool true ∧ S = [K]) := by
  refine Ctr_of_X (N := 16) Tryd.func12 rfl (by simp) rfl ?_
  intro w0 D0
  refine X_seq ?_
  refine X_region ?_
  refine XL_det .no (D_pure rfl) rfl ?_
  refine XL_then ?_
  refine X_seq ?_
  refine X_region ?_
  refine XL_det .no (D_build [_, _, _, _] rfl bld_38 (by rfl)) rfl ?_
  refine XL_det .no (D_build [_, _, _, _] rfl bld_38 (by rfl)) rfl ?_
  refine XL_det .no (D_build [_, _, _, _] rfl bld_38 (by rfl)) rfl ?_
  refine XL_bslice (cs := e41.flatMap encE) .no rfl slt_26 (by decide) (by decide) (by rfl) (by rfl) rfl rfl (fun b1 => ?_)
  refine XL_det .no (D_pure rfl) rfl ?_
  refine XL_then ?_
  refine X_seq ?_
  refine X_region ?_
  refine XL_det .no (D_build [_, _] rfl bld_25 (by rfl)) rfl ?_
  refine XL_det .no (D_pure rfl) rfl ?_
  refine XL_callk .no en_11 rfl (cdraw 1#32 0 4 (Arr.lit b1 e41 (by decide)) (K2 := blk b1 (e41.flatMap encE) 38) (Rd_obj (cs := e41.flatMap encE)) (ok41 4 (by decide)) hK) (by repeat first | with_reducible exact .nil _ | with_reducible exact .here _ _ | with_reducible exact Take.self _ | with_reducible apply Take.cons | with_reducible apply Out.there | with_reducible apply Take.skip | with_reducible exact Take.pre _ _ | with_reducible apply Out.app) rfl ?_
  rw [show drawS 1#32 0 4 (Arr.lit b1 e41 (by decide)).l = [32, 48, 124, 46, 35, 32, 32, 10] from draw41]
  refine XL_det .no (D_seq (q := true) rfl rfl rfl) rfl ?_
  refine XL_det .no (D_pure rfl) rfl ?_
  refine XL_det (.yes 10 rfl rfl rfl) (D_build [_, _] rfl bld_25 (by rfl)) rfl ?_
  refine XL_det (.yes 10 rfl rfl rfl) (D_pure rfl) rfl ?_
  refine XL_callk (.yes 10 rfl rfl rfl) en_13 rfl (cmodes 3 0 2 (Arr.lit b1 e41 (by decide)) (K := blk b1 (e41.flatMap encE) 38) (Rd_obj (cs := e41.flatMap encE)) (ok41 2 (by decide))) (by repeat first | with_reducible exact .nil _ | with_reducible exact .here _ _ | with_reducible exact Take.self _ | with_reducible apply Take.cons | with_reducible apply Out.there | with_reducible apply Take.skip | with_reducible exact Take.pre _ _ | with_reducible apply Out.app) rfl ?_
  rw [show modesS 3 0 2 (Arr.lit b1 e41 (by decide)).l = [51, 51] from modes41]
  refine XL_det (.yes 10 rfl rfl rfl) (D_seq (q := true) rfl rfl rfl) rfl ?_
  refine XL_det .no (D_pure rfl) rfl ?_
  refine XL_det .no (D_pure rfl) rfl ?_
  refine XL_then ?_
  refine X_ret ?_
  refine ret_ok (.nil _) (res_tmp rfl rfl) ?_
  exact ⟨_, ⟨rfl, rfl⟩, _, (by repeat first | with_reducible exact .nil _ | with_reducible exact .here _ _ | with_reducible exact Take.self _ | with_reducible apply Take.cons | with_reducible apply Out.there | with_reducible apply Take.skip | with_reducible exact Take.pre _ _ | with_reducible apply Out.app)⟩

end Go.Proofs.YtjcpggoodbkedaaDoor
end
