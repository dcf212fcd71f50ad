/- The given statement SimulIdleCardSaid is proved: however the jobs of a set come that the document calls safe, nobody runs in some tick no later than the busy time that the document reckons. Conditions: images that are right and not too great, as the statement itself says them; none beside. -/
import Derived.Test.YtkkdchgnknpceaaDoorSimulIdleP4
import Derived.KernelRfl
import Derived.Test.YtkkdchgnknpceaaDoorProg
import Derived.Test.YtkkdchgnknpceaaDoorRows
import Derived.Test.YtkkdchgnknpceaaDoorTie
import Derived.Test.YtkkdchgnknpceaaDoorCards
import Derived.SevenTiedAt
import Derived.LaidMore
section
namespace Go.Proofs.YtkkdchgnknpceaaDoor
open Go Go.Sl
set_option linter.unusedVariables false
set_option linter.unusedSimpArgs false
set_option maxRecDepth 4000
variable {B : Nat} {K : Asrt B}
theorem bld_141 : bldOf Tryd.prog 141 = some ([.int .i64 0, .int .i64 0, .int .i64 0, .int .i64 0], [(0, 1), (1, 1), (2, 1), (3, 1)]) := by kernel_rfl
theorem en_100 : Go.Proofs.Enters Tryd.prog 100 := Go.Proofs.enters_of Tryd.func100 (by kernel_rfl) rfl
theorem en_101 : Go.Proofs.Enters Tryd.prog 101 := Go.Proofs.enters_of Tryd.func101 (by kernel_rfl) rfl
theorem en_102 : Go.Proofs.Enters Tryd.prog 102 := Go.Proofs.enters_of Tryd.func102 (by kernel_rfl) rfl
theorem en_103 : Go.Proofs.Enters Tryd.prog 103 := Go.Proofs.enters_of Tryd.func103 (by kernel_rfl) rfl
theorem en_95 : Go.Proofs.Enters Tryd.prog 95 := Go.Proofs.enters_of Tryd.func95 (by kernel_rfl) rfl
theorem en_96 : Go.Proofs.Enters Tryd.prog 96 := Go.Proofs.enters_of Tryd.func96 (by kernel_rfl) rfl
theorem en_97 : Go.Proofs.Enters Tryd.prog 97 := Go.Proofs.enters_of Tryd.func97 (by kernel_rfl) rfl
theorem fld_141_0 : fldOff Tryd.prog 141 0 = some 0 := by kernel_rfl
theorem fld_141_1 : fldOff Tryd.prog 141 1 = some 1 := by kernel_rfl
theorem fld_141_2 : fldOff Tryd.prog 141 2 = some 2 := by kernel_rfl
theorem fld_141_3 : fldOff Tryd.prog 141 3 = some 3 := by kernel_rfl
theorem slc_136 : slcOf Tryd.prog 136 = some (141, 4) := by kernel_rfl
theorem slt_136 : slT Tryd.prog 136 = some (141, 4, 32, [.int .i64 0, .int .i64 0, .int .i64 0, .int .i64 0]) := by kernel_rfl
theorem tk_141 : tyK Tryd.prog 141 = some (true, 4) := by kernel_rfl

abbrev encW4 (q : Nat → Int) : List Value := [.int .i64 (q 0), .int .i64 (q 1), .int .i64 (q 2), .int .i64 (q 3)]
structure W4Ok (q : Nat → Int) : Prop where
  p : 1 ≤ q 0 ∧ q 0 ≤ 4096
  c : 0 ≤ q 1 ∧ q 1 ≤ 4096
  o : q 2 = 0
  y : 0 ≤ q 3 ∧ q 3 ≤ 4096
def workV (q : Nat → Int) (n : Nat) : Int := (cd n (q 0).toNat : Int) * q 1 + q 3
def lsum (l : List Int) : Int := l.foldl (· + ·) 0
def allV (l : List (Nat → Int)) (n : Nat) : Int := lsum (l.map fun q => workV q n)
theorem lsum_s {l : List Int} {i : Nat} {y : Int} (h : l[i]? = some y) : lsum (l.take (i + 1)) = lsum (l.take i) + y := by
  unfold lsum; rw [List.take_add_one, h, List.foldl_append]; rfl
theorem lsum_in {l : List Int} (h : ∀ x ∈ l, 0 ≤ x ∧ x ≤ 1073741824) : ∀ i : Nat, 0 ≤ lsum (l.take i) ∧ lsum (l.take i) ≤ 1073741824 * i
  | 0 => by rw [List.take_zero]; show (0 : Int) ≤ 0 ∧ (0 : Int) ≤ _; omega
  | i + 1 => by
    have ih := lsum_in h i
    cases hq : l[i]? with
    | none =>
      have := List.getElem?_eq_none_iff.1 hq
      rw [List.take_of_length_le (by omega)]; rw [List.take_of_length_le (by omega)] at ih; omega
    | some y => have := h y (List.mem_of_getElem? hq); rw [lsum_s hq]; omega
theorem cd_le {T : Nat} (h : 1 ≤ T) : ∀ u, cd u T ≤ u
  | 0 => by rw [cd_0 h]; exact Nat.le_refl _
  | u + 1 => by have := cd_le h u; rw [cd_s h]; split <;> omega
theorem cd_q {a b : Nat} (h : 1 ≤ b) : cd a b = a / b + if a / b * b < a then 1 else 0 := by
  unfold cd
  have hd := Nat.div_add_mod a b
  have hm := Nat.mod_lt a (show b > 0 by omega)
  generalize a / b = q at hd
  generalize a % b = r at hd hm
  subst hd
  rw [Nat.mul_comm q b]
  by_cases hz : r = 0
  · subst hz
    rw [if_neg (by omega), show b * q + 0 + b - 1 = (b - 1) + b * q by omega, Nat.add_mul_div_left _ _ (by omega), Nat.div_eq_of_lt (by omega)]; omega
  · rw [if_pos (by omega), show b * q + r + b - 1 = (r - 1) + b * (q + 1) by rw [Nat.mul_add]; omega, Nat.add_mul_div_left _ _ (by omega), Nat.div_eq_of_lt (by omega)]; omega
theorem work_in {q : Nat → Int} (h : W4Ok q) {n : Nat} (hn : n ≤ 100000) : (0 ≤ (cd n (q 0).toNat : Int) * q 1 ∧ (cd n (q 0).toNat : Int) * q 1 ≤ 409600000) ∧ 0 ≤ workV q n ∧ workV q n ≤ 1073741824 := by
  have h1 := cd_le (T := (q 0).toNat) (by have := h.p; omega) n
  have h2 : 0 ≤ (cd n (q 0).toNat : Int) * q 1 := Int.mul_nonneg (by omega) h.c.1
  have h3 : (cd n (q 0).toNat : Int) * q 1 ≤ 100000 * 4096 := Int.mul_le_mul (by omega) h.c.2 h.c.1 (by omega)
  have := h.y
  exact ⟨⟨h2, by omega⟩, by unfold workV; omega, by unfold workV; omega⟩
theorem all_in {l : List (Nat → Int)} (h : ∀ q ∈ l, W4Ok q) (hl : l.length ≤ 16) {n : Nat} (hn : n ≤ 100000) : 0 ≤ allV l n ∧ allV l n ≤ 17179869184 := by
  have := lsum_in (l := l.map fun q => workV q n) (fun x hx => by
    obtain ⟨q, hq, rfl⟩ := List.mem_map.1 hx
    exact (work_in (h q hq) hn).2) l.length
  rw [List.take_of_length_le (by simp)] at this
  unfold allV; omega
theorem quo_wrap {a b : Nat} (h : a ≤ 1099511627776) : IntKind.i64.wrap (Int.tdiv (a : Int) (b : Int)) = ((a / b : Nat) : Int) := by
  have : Int.tdiv (a : Int) (b : Int) = ((a / b : Nat) : Int) := rfl
  have hle := Nat.div_le_self a b
  rw [this]; generalize a / b = q at hle ⊢
  rw [i64_in' (by omega) (by omega)]
theorem mul_q {a : Int} (h : 1 ≤ a ∧ a ≤ 1048576) : IntKind.i64.wrap (Int.tdiv 1099511627776 a) = 1099511627776 / a ∧ 1048576 ≤ (1099511627776 : Int) / a := by
  have h1 : (1048576 : Int) ≤ 1099511627776 / a := Int.le_ediv_of_mul_le (by omega) (by omega)
  have h2 : (1099511627776 : Int) / a ≤ 1099511627776 := Int.ediv_le_self _ (by omega)
  rw [Int.tdiv_eq_ediv_of_nonneg (by omega), i64_in' (by omega) (by omega)]; exact ⟨rfl, h1⟩
def wT (e : Nat → Int) : Nat → Int := fun k => [e 0, e 2, 0, 0].getD k 0
def aheadN (ts : List (Nat → Int)) (s : BitVec 32) : Nat → List (Nat → Int)
  | 0 => []
  | n + 1 => if hasB s (n : Int) = true then aheadN ts s n ++ [wT (tk ts n)] else aheadN ts s n
theorem ahead_len (ts : List (Nat → Int)) (s : BitVec 32) : ∀ n, (aheadN ts s n).length ≤ n
  | 0 => Nat.le_refl _
  | n + 1 => by
    have ih := ahead_len ts s n
    unfold aheadN; split
    · rw [List.length_append]; simp; omega
    · omega
theorem ahead_ok {ts : List (Nat → Int)} (hT : TsOk ts) (s : BitVec 32) : ∀ n, n ≤ ts.length → ∀ q ∈ aheadN ts s n, W4Ok q ∧ q 3 = 0
  | 0, _ => fun q hq => by cases hq
  | n + 1, hn => fun q hq => by
    unfold aheadN at hq
    split at hq
    · rcases List.mem_append.1 hq with h | h
      · exact ahead_ok hT s n (by omega) q h
      · simp at h; subst h
        obtain ⟨h1, h2, h3, h4, h5⟩ := hT.c (at_tk (show n < ts.length by omega))
        exact ⟨⟨h1, by show 0 ≤ tk ts n 2 ∧ _; exact ⟨by omega, h3.2⟩, rfl, by show (0 : Int) ≤ 0 ∧ (0 : Int) ≤ 4096; omega⟩, rfl⟩
    · exact ahead_ok hT s n (by omega) q hq
theorem lsum_app (l l' : List Int) : lsum (l ++ l') = lsum l + lsum l' := by
  have key : ∀ (l : List Int) (a : Int), l.foldl (· + ·) a = a + l.foldl (· + ·) 0 := by
    intro l
    induction l with
    | nil => intro a; simp
    | cons x l ih => intro a; rw [List.foldl_cons, List.foldl_cons, ih (a + x), ih (0 + x)]; omega
  unfold lsum; rw [List.foldl_append, key l']
theorem ahead_sum {ts : List (Nat → Int)} {s : BitVec 32} (f : (Nat → Int) → Int) : ∀ m, m ≤ ts.length → lsum ((aheadN ts s m).map f) = sumI (fun j => if inS ts s j then f (wT (tk ts j)) else 0) m
  | 0, _ => rfl
  | m + 1, hm => by
    have ih := ahead_sum (s := s) f m (show m ≤ ts.length by omega)
    show _ = sumI _ m + (if inS ts s m then f (wT (tk ts m)) else 0)
    rw [← ih, show aheadN ts s (m + 1) = if hasB s (m : Int) = true then aheadN ts s m ++ [wT (tk ts m)] else aheadN ts s m from rfl]
    by_cases h : hasB s (m : Int) = true
    · rw [if_pos h, if_pos ⟨h, by omega⟩, List.map_append, lsum_app]; show _ + (0 + _) = _; omega
    · rw [if_neg h, if_neg (fun q => h q.1)]; omega

theorem rin02 (n : Int) (h : 0 ≤ n ∧ n ≤ 1099511627776) : Ctr Tryd.prog B 100 [.int .i64 n] [] (fun v S => v = .bool true ∧ S = []) := by
  refine Ctr_of_X (N := 9) Tryd.func100 rfl (by simp) rfl ?_
  intro w0 D0
  refine X_seq ?_
  refine X_region ?_
  refine XL_det .no (D_pure rfl) rfl ?_
  refine XL_then ?_
  refine X_seq ?_
  refine X_region ?_
  refine XL_det .no (D_pure rfl) rfl ?_
  refine XL_det .no (D_pure rfl) rfl ?_
  refine XL_det .no (D_pure rfl) rfl ?_
  refine XL_split (t := 5) rfl (fun h1 => ?_) (fun h1 => ?_)
  · try simp only [decide_eq_true_eq, decide_eq_false_iff_not, Bool.not_eq_true', Bool.not_eq_false', beq_iff_eq, bne_iff_ne, beq_eq_false_iff_ne, bne_eq_false_iff_eq, Int.not_lt, Int.not_le, gt_iff_lt, ge_iff_le, ne_eq] at h1
    refine XL_det (.yes 5 rfl rfl rfl) (D_pure rfl) rfl ?_
    refine XL_det (.yes 5 rfl rfl rfl) (D_pure rfl) rfl ?_
    refine XL_det .no (D_pure rfl) rfl ?_
    refine XL_det .no (D_pure rfl) rfl ?_
    refine XL_then ?_
    refine X_ret ?_
    refine ret_ok (.nil _) (res_tmp rfl rfl) ?_
    exact ⟨_, ⟨by rw [decide_eq_true h.2], rfl⟩, _, (by with_reducible repeat first | exact .nil _ | exact .here _ _ | exact Take.self _ | apply Take.cons | apply Out.there | apply Take.skip | exact Take.pre _ _ | apply Out.app)⟩
  · try simp only [decide_eq_true_eq, decide_eq_false_iff_not, Bool.not_eq_true', Bool.not_eq_false', beq_iff_eq, bne_iff_ne, beq_eq_false_iff_ne, bne_eq_false_iff_eq, Int.not_lt, Int.not_le, gt_iff_lt, ge_iff_le, ne_eq] at h1
    omega

theorem radd (a b : Int) (h : 0 ≤ a ∧ 0 ≤ b ∧ a + b ≤ 1099511627776) : Ctr Tryd.prog B 95 [.int .i64 a, .int .i64 b] [] (fun v S => v = .tuple #[.int .i64 (a + b), .bool true] ∧ S = []) := by
  refine Ctr_of_X (N := 24) Tryd.func95 rfl (by simp) rfl ?_
  intro w0 D0
  refine X_seq ?_
  refine X_region ?_
  refine XL_det .no (D_pure rfl) rfl ?_
  refine XL_det .no (D_pure rfl) rfl ?_
  refine XL_then ?_
  refine X_seq ?_
  refine X_seq ?_
  refine X_region ?_
  refine XL_det .no (D_pure rfl) rfl ?_
  refine XL_callv .no en_100 rfl (rin02 _ (by omega)) rfl ?_
  refine XL_det .no (D_pure rfl) rfl ?_
  refine XL_det .no (D_pure rfl) rfl ?_
  refine XL_det (.yes 9 rfl rfl rfl) (D_pure rfl) rfl ?_
  refine XL_callv (.yes 9 rfl rfl rfl) en_100 rfl (rin02 _ (by omega)) rfl ?_
  refine XL_det (.yes 9 rfl rfl rfl) (D_pure rfl) rfl ?_
  refine XL_det .no (D_pure rfl) rfl ?_
  refine XL_det .no (D_pure rfl) rfl ?_
  refine XL_det (.yes 14 rfl rfl rfl) (D_pure rfl) rfl ?_
  refine XL_det (.yes 14 rfl rfl rfl) (D_pure rfl) rfl ?_
  refine XL_det (.yes 14 rfl rfl rfl) (D_add rfl rfl (by omega) (by omega)) rfl ?_
  refine XL_callv (.yes 14 rfl rfl rfl) en_100 rfl (rin02 _ (by omega)) rfl ?_
  refine XL_det (.yes 14 rfl rfl rfl) (D_pure rfl) rfl ?_
  refine XL_det .no (D_pure rfl) rfl ?_
  refine XL_then ?_
  refine X_cond_f rfl rfl ?_
  refine X_skip ?_
  refine thenX_normal ?_
  refine X_seq ?_
  refine X_region ?_
  refine XL_det .no (D_pure rfl) rfl ?_
  refine XL_det .no (D_pure rfl) rfl ?_
  refine XL_det .no (D_add rfl rfl (by omega) (by omega)) rfl ?_
  refine XL_det .no (D_pure rfl) rfl ?_
  refine XL_det .no (D_pure rfl) rfl ?_
  refine XL_then ?_
  refine X_ret ?_
  refine ret_ok (.nil _) (res_tmp2 rfl rfl rfl) ?_
  exact ⟨_, ⟨rfl, rfl⟩, _, (by with_reducible repeat first | exact .nil _ | exact .here _ _ | exact Take.self _ | apply Take.cons | apply Out.there | apply Take.skip | exact Take.pre _ _ | apply Out.app)⟩

theorem rless (a : Int) (h : 0 ≤ a ∧ a ≤ 1099511627776) : Ctr Tryd.prog B 101 [.int .i64 a, .int .i64 0] [] (fun v S => v = .tuple #[.int .i64 a, .bool true] ∧ S = []) := by
  refine Ctr_of_X (N := 20) Tryd.func101 rfl (by simp) rfl ?_
  intro w0 D0
  refine X_seq ?_
  refine X_region ?_
  refine XL_det .no (D_pure rfl) rfl ?_
  refine XL_det .no (D_pure rfl) rfl ?_
  refine XL_then ?_
  refine X_seq ?_
  refine X_seq ?_
  refine X_region ?_
  refine XL_det .no (D_pure rfl) rfl ?_
  refine XL_callv .no en_100 rfl (rin02 _ (by omega)) rfl ?_
  refine XL_det .no (D_pure rfl) rfl ?_
  refine XL_det .no (D_pure rfl) rfl ?_
  refine XL_det (.yes 9 rfl rfl rfl) (D_pure rfl) rfl ?_
  refine XL_callv (.yes 9 rfl rfl rfl) en_100 rfl (rin02 _ (by omega)) rfl ?_
  refine XL_det (.yes 9 rfl rfl rfl) (D_pure rfl) rfl ?_
  refine XL_det .no (D_pure rfl) rfl ?_
  refine XL_then ?_
  refine X_cond_f rfl rfl ?_
  refine X_skip ?_
  refine thenX_normal ?_
  refine X_seq ?_
  refine X_seq ?_
  refine X_region ?_
  refine XL_det .no (D_pure rfl) rfl ?_
  refine XL_det .no (D_pure rfl) rfl ?_
  refine XL_det .no (D_pure rfl) rfl ?_
  refine XL_then ?_
  refine X_cond rfl (fun h1 => ?_) (fun h1 => ?_)
  · try simp only [decide_eq_true_eq, decide_eq_false_iff_not, Bool.not_eq_true', Bool.not_eq_false', beq_iff_eq, bne_iff_ne, beq_eq_false_iff_ne, bne_eq_false_iff_eq, Int.not_lt, Int.not_le, gt_iff_lt, ge_iff_le, ne_eq] at h1
    omega
  · try simp only [decide_eq_true_eq, decide_eq_false_iff_not, Bool.not_eq_true', Bool.not_eq_false', beq_iff_eq, bne_iff_ne, beq_eq_false_iff_ne, bne_eq_false_iff_eq, Int.not_lt, Int.not_le, gt_iff_lt, ge_iff_le, ne_eq] at h1
    refine X_skip ?_
    refine thenX_normal ?_
    refine X_seq ?_
    refine X_region ?_
    refine XL_det .no (D_pure rfl) rfl ?_
    refine XL_det .no (D_pure rfl) rfl ?_
    refine XL_det .no (D_sub rfl rfl (by omega) (by omega)) rfl ?_
    refine XL_det .no (D_pure rfl) rfl ?_
    refine XL_det .no (D_pure rfl) rfl ?_
    refine XL_then ?_
    refine X_ret ?_
    refine ret_ok (.nil _) (res_tmp2 rfl rfl rfl) ?_
    exact ⟨_, ⟨by rw [Int.sub_zero], rfl⟩, _, (by with_reducible repeat first | exact .nil _ | exact .here _ _ | exact Take.self _ | apply Take.cons | apply Out.there | apply Take.skip | exact Take.pre _ _ | apply Out.app)⟩

theorem rup (a b : Nat) (ha : a ≤ 1000000) (hb : 1 ≤ b ∧ b ≤ 1000000) : Ctr Tryd.prog B 102 [.int .i64 (a : Int), .int .i64 (b : Int)] [] (fun v S => v = .tuple #[.int .i64 (cd a b : Int), .bool true] ∧ S = []) := by
  refine Ctr_of_X (N := 30) Tryd.func102 rfl (by simp) rfl ?_
  intro w0 D0
  have hcd := cd_q (a := a) hb.1
  have hle := Nat.div_le_self a b
  have hml := Nat.div_mul_le_self a b
  obtain ⟨q, hq⟩ : ∃ q, a / b = q := ⟨_, rfl⟩
  rw [hq] at hcd hle hml
  have hqb : (q : Int) * (b : Int) = ((q * b : Nat) : Int) := by rw [Int.natCast_mul]
  have hqb2 : (q : Int) * (b : Int) ≤ a ∧ 0 ≤ (q : Int) * (b : Int) := by rw [hqb]; omega
  have hlt : (q : Int) * (b : Int) < a ↔ q * b < a := by rw [hqb]; omega
  refine X_seq ?_
  refine X_region ?_
  refine XL_det .no (D_pure rfl) rfl ?_
  refine XL_det .no (D_pure rfl) rfl ?_
  refine XL_then ?_
  refine X_seq ?_
  refine X_seq ?_
  refine X_region ?_
  refine XL_det .no (D_pure rfl) rfl ?_
  refine XL_callv .no en_100 rfl (rin02 _ (by omega)) rfl ?_
  refine XL_det .no (D_pure rfl) rfl ?_
  refine XL_det .no (D_pure rfl) rfl ?_
  refine XL_det (.yes 10 rfl rfl rfl) (D_pure rfl) rfl ?_
  refine XL_callv (.yes 10 rfl rfl rfl) en_100 rfl (rin02 _ (by omega)) rfl ?_
  refine XL_det (.yes 10 rfl rfl rfl) (D_pure rfl) rfl ?_
  refine XL_det .no (D_pure rfl) rfl ?_
  refine XL_det .no (D_pure rfl) rfl ?_
  refine XL_det (.yes 15 rfl rfl rfl) (D_pure rfl) rfl ?_
  refine XL_det (.yes 15 rfl rfl rfl) (D_pure rfl) rfl ?_
  refine XL_det .no (D_pure rfl) rfl ?_
  refine XL_then ?_
  refine X_cond rfl (fun h1 => ?_) (fun h1 => ?_)
  · try simp only [decide_eq_true_eq, decide_eq_false_iff_not, Bool.not_eq_true', Bool.not_eq_false', beq_iff_eq, bne_iff_ne, beq_eq_false_iff_ne, bne_eq_false_iff_eq, Int.not_lt, Int.not_le, gt_iff_lt, ge_iff_le, ne_eq] at h1
    omega
  · try simp only [decide_eq_true_eq, decide_eq_false_iff_not, Bool.not_eq_true', Bool.not_eq_false', beq_iff_eq, bne_iff_ne, beq_eq_false_iff_ne, bne_eq_false_iff_eq, Int.not_lt, Int.not_le, gt_iff_lt, ge_iff_le, ne_eq] at h1
    refine X_skip ?_
    refine thenX_normal ?_
    refine X_seq ?_
    refine X_region ?_
    refine XL_det .no (D_pure rfl) rfl ?_
    refine XL_det .no (D_pure rfl) rfl ?_
    refine XL_det .no (D_divmod (z := (q : Int)) rfl rfl (by omega) (by rw [quo_wrap (by omega), hq])) rfl ?_
    refine XL_det .no (D_pure rfl) rfl ?_
    refine XL_then ?_
    refine X_seq ?_
    refine X_seq ?_
    refine X_region ?_
    refine XL_det .no (D_pure rfl) rfl ?_
    refine XL_det .no (D_pure rfl) rfl ?_
    refine XL_det .no (D_mul (m := (q : Int)) (n := (b : Int)) rfl rfl (by omega) (by omega)) rfl ?_
    refine XL_det .no (D_pure rfl) rfl ?_
    refine XL_det .no (D_pure rfl) rfl ?_
    refine XL_then ?_
    refine X_cond rfl (fun h2 => ?_) (fun h2 => ?_)
    · try simp only [decide_eq_true_eq, decide_eq_false_iff_not, Bool.not_eq_true', Bool.not_eq_false', beq_iff_eq, bne_iff_ne, beq_eq_false_iff_ne, bne_eq_false_iff_eq, Int.not_lt, Int.not_le, gt_iff_lt, ge_iff_le, ne_eq] at h2
      refine X_region ?_
      refine XL_det .no (D_pure rfl) rfl ?_
      refine XL_det .no (D_add rfl rfl (by omega) (by omega)) rfl ?_
      refine XL_det .no (D_pure rfl) rfl ?_
      refine XL_then ?_
      refine X_seq ?_
      refine X_region ?_
      refine XL_det .no (D_pure rfl) rfl ?_
      refine XL_det .no (D_pure rfl) rfl ?_
      refine XL_det .no (D_pure rfl) rfl ?_
      refine XL_then ?_
      refine X_ret ?_
      refine ret_ok (.nil _) (res_tmp2 rfl rfl rfl) ?_
      exact ⟨_, ⟨by rw [hcd, if_pos (hlt.1 h2)]; rfl, rfl⟩, _, (by with_reducible repeat first | exact .nil _ | exact .here _ _ | exact Take.self _ | apply Take.cons | apply Out.there | apply Take.skip | exact Take.pre _ _ | apply Out.app)⟩
    · try simp only [decide_eq_true_eq, decide_eq_false_iff_not, Bool.not_eq_true', Bool.not_eq_false', beq_iff_eq, bne_iff_ne, beq_eq_false_iff_ne, bne_eq_false_iff_eq, Int.not_lt, Int.not_le, gt_iff_lt, ge_iff_le, ne_eq] at h2
      refine X_skip ?_
      refine thenX_normal ?_
      refine X_seq ?_
      refine X_region ?_
      refine XL_det .no (D_pure rfl) rfl ?_
      refine XL_det .no (D_pure rfl) rfl ?_
      refine XL_det .no (D_pure rfl) rfl ?_
      refine XL_then ?_
      refine X_ret ?_
      refine ret_ok (.nil _) (res_tmp2 rfl rfl rfl) ?_
      exact ⟨_, ⟨by rw [hcd, if_neg (fun z => absurd (hlt.2 z) (by omega))]; rfl, rfl⟩, _, (by with_reducible repeat first | exact .nil _ | exact .here _ _ | exact Take.self _ | apply Take.cons | apply Out.there | apply Take.skip | exact Take.pre _ _ | apply Out.app)⟩

theorem rmul (a b : Int) (ha : 0 ≤ a ∧ a ≤ 1048576) (hb : 0 ≤ b ∧ b ≤ 1048576) : Ctr Tryd.prog B 103 [.int .i64 a, .int .i64 b] [] (fun v S => v = .tuple #[.int .i64 (a * b), .bool true] ∧ S = []) := by
  refine Ctr_of_X (N := 27) Tryd.func103 rfl (by simp) rfl ?_
  intro w0 D0
  have hab : 0 ≤ a * b := Int.mul_nonneg ha.1 hb.1
  have hab2 : a * b ≤ 1048576 * 1048576 := Int.mul_le_mul ha.2 hb.2 hb.1 (by omega)
  refine X_seq ?_
  refine X_region ?_
  refine XL_det .no (D_pure rfl) rfl ?_
  refine XL_det .no (D_pure rfl) rfl ?_
  refine XL_then ?_
  refine X_seq ?_
  refine X_seq ?_
  refine X_region ?_
  refine XL_det .no (D_pure rfl) rfl ?_
  refine XL_callv .no en_100 rfl (rin02 _ (by omega)) rfl ?_
  refine XL_det .no (D_pure rfl) rfl ?_
  refine XL_det .no (D_pure rfl) rfl ?_
  refine XL_det (.yes 9 rfl rfl rfl) (D_pure rfl) rfl ?_
  refine XL_callv (.yes 9 rfl rfl rfl) en_100 rfl (rin02 _ (by omega)) rfl ?_
  refine XL_det (.yes 9 rfl rfl rfl) (D_pure rfl) rfl ?_
  refine XL_det .no (D_pure rfl) rfl ?_
  refine XL_then ?_
  refine X_cond_f rfl rfl ?_
  refine X_skip ?_
  refine thenX_normal ?_
  refine X_seq ?_
  refine X_seq ?_
  refine X_region ?_
  refine XL_det .no (D_pure rfl) rfl ?_
  refine XL_det .no (D_pure rfl) rfl ?_
  refine XL_det .no (D_pure rfl) rfl ?_
  refine XL_split (t := 16) rfl (fun h1 => ?_) (fun h1 => ?_)
  · try simp only [decide_eq_true_eq, decide_eq_false_iff_not, Bool.not_eq_true', Bool.not_eq_false', beq_iff_eq, bne_iff_ne, beq_eq_false_iff_ne, bne_eq_false_iff_eq, Int.not_lt, Int.not_le, gt_iff_lt, ge_iff_le, ne_eq] at h1
    refine XL_skip 16 rfl rfl rfl rfl rfl ?_
    refine XL_skip 16 rfl rfl rfl rfl rfl ?_
    refine XL_det .no (D_pure rfl) rfl ?_
    refine XL_then ?_
    refine X_cond_t rfl rfl ?_
    refine X_seq ?_
    refine X_region ?_
    refine XL_det .no (D_pure rfl) rfl ?_
    refine XL_det .no (D_pure rfl) rfl ?_
    refine XL_then ?_
    refine X_ret ?_
    refine thenX_ret ?_
    refine ret_ok (.nil _) (res_tmp2 rfl rfl rfl) ?_
    exact ⟨_, ⟨by rw [h1, Int.zero_mul], rfl⟩, _, (by with_reducible repeat first | exact .nil _ | exact .here _ _ | exact Take.self _ | apply Take.cons | apply Out.there | apply Take.skip | exact Take.pre _ _ | apply Out.app)⟩
  · try simp only [decide_eq_true_eq, decide_eq_false_iff_not, Bool.not_eq_true', Bool.not_eq_false', beq_iff_eq, bne_iff_ne, beq_eq_false_iff_ne, bne_eq_false_iff_eq, Int.not_lt, Int.not_le, gt_iff_lt, ge_iff_le, ne_eq] at h1
    obtain ⟨hm1, hm2⟩ := mul_q (a := a) (by omega)
    refine XL_det (.yes 16 rfl rfl rfl) (D_pure rfl) rfl ?_
    refine XL_det (.yes 16 rfl rfl rfl) (D_pure rfl) rfl ?_
    refine XL_det .no (D_pure rfl) rfl ?_
    refine XL_then ?_
    refine X_cond rfl (fun h2 => ?_) (fun h2 => ?_)
    · try simp only [decide_eq_true_eq, decide_eq_false_iff_not, Bool.not_eq_true', Bool.not_eq_false', beq_iff_eq, bne_iff_ne, beq_eq_false_iff_ne, bne_eq_false_iff_eq, Int.not_lt, Int.not_le, gt_iff_lt, ge_iff_le, ne_eq] at h2
      refine X_seq ?_
      refine X_region ?_
      refine XL_det .no (D_pure rfl) rfl ?_
      refine XL_det .no (D_pure rfl) rfl ?_
      refine XL_then ?_
      refine X_ret ?_
      refine thenX_ret ?_
      refine ret_ok (.nil _) (res_tmp2 rfl rfl rfl) ?_
      exact ⟨_, ⟨by rw [h2, Int.mul_zero], rfl⟩, _, (by with_reducible repeat first | exact .nil _ | exact .here _ _ | exact Take.self _ | apply Take.cons | apply Out.there | apply Take.skip | exact Take.pre _ _ | apply Out.app)⟩
    · try simp only [decide_eq_true_eq, decide_eq_false_iff_not, Bool.not_eq_true', Bool.not_eq_false', beq_iff_eq, bne_iff_ne, beq_eq_false_iff_ne, bne_eq_false_iff_eq, Int.not_lt, Int.not_le, gt_iff_lt, ge_iff_le, ne_eq] at h2
      refine X_skip ?_
      refine thenX_normal ?_
      refine X_seq ?_
      refine X_seq ?_
      refine X_region ?_
      refine XL_det .no (D_pure rfl) rfl ?_
      refine XL_det .no (D_divmod (z := 1099511627776 / a) rfl rfl (by omega) hm1) rfl ?_
      refine XL_det .no (D_pure rfl) rfl ?_
      refine XL_det .no (D_pure rfl) rfl ?_
      refine XL_then ?_
      refine X_cond rfl (fun h3 => ?_) (fun h3 => ?_)
      · try simp only [decide_eq_true_eq, decide_eq_false_iff_not, Bool.not_eq_true', Bool.not_eq_false', beq_iff_eq, bne_iff_ne, beq_eq_false_iff_ne, bne_eq_false_iff_eq, Int.not_lt, Int.not_le, gt_iff_lt, ge_iff_le, ne_eq] at h3
        omega
      · try simp only [decide_eq_true_eq, decide_eq_false_iff_not, Bool.not_eq_true', Bool.not_eq_false', beq_iff_eq, bne_iff_ne, beq_eq_false_iff_ne, bne_eq_false_iff_eq, Int.not_lt, Int.not_le, gt_iff_lt, ge_iff_le, ne_eq] at h3
        refine X_skip ?_
        refine thenX_normal ?_
        refine X_seq ?_
        refine X_region ?_
        refine XL_det .no (D_pure rfl) rfl ?_
        refine XL_det .no (D_pure rfl) rfl ?_
        refine XL_det .no (D_mul (m := a) (n := b) rfl rfl (by omega) (by omega)) rfl ?_
        refine XL_det .no (D_pure rfl) rfl ?_
        refine XL_det .no (D_pure rfl) rfl ?_
        refine XL_then ?_
        refine X_ret ?_
        refine ret_ok (.nil _) (res_tmp2 rfl rfl rfl) ?_
        exact ⟨_, ⟨rfl, rfl⟩, _, (by with_reducible repeat first | exact .nil _ | exact .here _ _ | exact Take.self _ | apply Take.cons | apply Out.there | apply Take.skip | exact Take.pre _ _ | apply Out.app)⟩

theorem rwork (q : Nat → Int) (hq : W4Ok q) (n : Nat) (hn : n ≤ 100000) : Ctr Tryd.prog B 96 [.agg (encW4 q).toArray, .int .i64 (n : Int)] [] (fun v S => v = .tuple #[.int .i64 (workV q n), .bool true] ∧ S = []) := by
  refine Ctr_of_X (N := 45) Tryd.func96 rfl (by simp) rfl ?_
  intro w0 D0
  have hp := hq.p
  have hc := hq.c
  have hy := hq.y
  have hle := cd_le (T := (q 0).toNat) (by omega) n
  have hwi := (work_in hq hn).1
  refine X_seq ?_
  refine X_region ?_
  refine XL_box (cs := encW4 q) .no rfl rfl rfl (fun b1 => ?_)
  refine XL_det .no (D_pure rfl) rfl ?_
  refine XL_det .no (D_pure rfl) rfl ?_
  refine XL_then ?_
  refine X_seq ?_
  refine X_region ?_
  refine XL_det .no (D_pure rfl) rfl ?_
  refine XL_det .no (D_fld rfl fld_141_2 (o' := 2) rfl) rfl ?_
  refine XL_det .no (D_ldo (v := .int .i64 0) rfl (by with_reducible repeat first | exact .here _ _ | apply Out.there | apply Out.app) tk_3 (by show some (Value.int .i64 (q 2)) = _; rw [hq.o])) rfl ?_
  refine XL_callv .no en_101 rfl (rless (n : Int) (by omega)) rfl ?_
  refine XL_det .no (D_pure rfl) rfl ?_
  refine XL_det .no (D_pure (v := .int .i64 (n : Int)) rfl) rfl ?_
  refine XL_det .no (D_pure (v := .bool true) rfl) rfl ?_
  refine XL_det .no (D_pure rfl) rfl ?_
  refine XL_det .no (D_pure rfl) rfl ?_
  refine XL_then ?_
  refine X_seq ?_
  refine X_seq ?_
  refine X_region ?_
  refine XL_det .no (D_pure rfl) rfl ?_
  refine XL_det .no (D_pure rfl) rfl ?_
  refine XL_then ?_
  refine X_cond_f rfl rfl ?_
  refine X_skip ?_
  refine thenX_normal ?_
  refine X_seq ?_
  refine X_region ?_
  refine XL_det .no (D_pure rfl) rfl ?_
  refine XL_det .no (D_fld rfl fld_141_0 (o' := 0) rfl) rfl ?_
  refine XL_det .no (D_ldo (v := .int .i64 ((q 0).toNat : Int)) rfl (by with_reducible repeat first | exact .here _ _ | apply Out.there | apply Out.app) tk_3 (by show some (Value.int .i64 (q 0)) = _; rw [Int.toNat_of_nonneg (by omega)])) rfl ?_
  refine XL_callv .no en_102 rfl (rup n (q 0).toNat (by omega) (by omega)) rfl ?_
  refine XL_det .no (D_pure rfl) rfl ?_
  refine XL_det .no (D_pure (v := .int .i64 (cd n (q 0).toNat : Int)) rfl) rfl ?_
  refine XL_det .no (D_pure (v := .bool true) rfl) rfl ?_
  refine XL_det .no (D_pure rfl) rfl ?_
  refine XL_det .no (D_pure rfl) rfl ?_
  refine XL_then ?_
  refine X_seq ?_
  refine X_seq ?_
  refine X_region ?_
  refine XL_det .no (D_pure rfl) rfl ?_
  refine XL_det .no (D_pure rfl) rfl ?_
  refine XL_then ?_
  refine X_cond_f rfl rfl ?_
  refine X_skip ?_
  refine thenX_normal ?_
  refine X_seq ?_
  refine X_region ?_
  refine XL_det .no (D_pure rfl) rfl ?_
  refine XL_det .no (D_fld rfl fld_141_1 (o' := 1) rfl) rfl ?_
  refine XL_det .no (D_ldo rfl (by with_reducible repeat first | exact .here _ _ | apply Out.there | apply Out.app) tk_3 (by rfl)) rfl ?_
  refine XL_callv .no en_103 rfl (rmul (cd n (q 0).toNat : Int) (q 1) (by omega) (by omega)) rfl ?_
  refine XL_det .no (D_pure rfl) rfl ?_
  refine XL_det .no (D_pure (v := .int .i64 ((cd n (q 0).toNat : Int) * q 1)) rfl) rfl ?_
  refine XL_det .no (D_pure (v := .bool true) rfl) rfl ?_
  refine XL_det .no (D_pure rfl) rfl ?_
  refine XL_det .no (D_pure rfl) rfl ?_
  refine XL_then ?_
  refine X_seq ?_
  refine X_seq ?_
  refine X_region ?_
  refine XL_det .no (D_pure rfl) rfl ?_
  refine XL_det .no (D_pure rfl) rfl ?_
  refine XL_then ?_
  refine X_cond_f rfl rfl ?_
  refine X_skip ?_
  refine thenX_normal ?_
  refine X_seq ?_
  refine X_region ?_
  refine XL_det .no (D_pure rfl) rfl ?_
  refine XL_det .no (D_fld rfl fld_141_3 (o' := 3) rfl) rfl ?_
  refine XL_det .no (D_ldo rfl (by with_reducible repeat first | exact .here _ _ | apply Out.there | apply Out.app) tk_3 (by rfl)) rfl ?_
  refine XL_callv .no en_95 rfl (radd ((cd n (q 0).toNat : Int) * q 1) (q 3) (by omega)) rfl ?_
  refine XL_det .no (D_pure (v := .int .i64 (workV q n)) rfl) rfl ?_
  refine XL_det .no (D_pure (v := .bool true) rfl) rfl ?_
  refine XL_det .no (D_pure rfl) rfl ?_
  refine XL_det .no (D_pure rfl) rfl ?_
  refine XL_then ?_
  refine X_ret ?_
  refine ret_ok (.nil _) (res_tmp2 rfl rfl rfl) ?_
  exact ⟨_, ⟨rfl, rfl⟩, _, (by with_reducible repeat first | exact .nil _ | exact .here _ _ | exact Take.self _ | apply Take.cons | apply Out.there | apply Take.skip | exact Take.pre _ _ | apply Out.app)⟩

theorem rsum (a : Arr Int) (ha : Rd K a.ad (a.l.flatMap encI)) (hb : ∀ x ∈ a.l, 0 ≤ x ∧ x ≤ 1073741824) (hn : a.l.length ≤ 16) : Ctr Tryd.prog B 97 [.slice a.oad a.l.length a.c] [K] (fun v S => v = .tuple #[.int .i64 (lsum a.l), .bool true] ∧ S = [K]) := by
  refine Ctr_of_X (N := 27) Tryd.func97 rfl (by simp) rfl ?_
  intro w0 D0
  refine X_seq ?_
  refine X_region ?_
  refine XL_det .no (D_pure rfl) rfl ?_
  refine XL_det .no (D_pure rfl) rfl ?_
  refine XL_then ?_
  refine X_seq ?_
  refine X_region ?_
  refine XL_det .no (D_pure rfl) rfl ?_
  refine XL_then ?_
  refine X_seq ?_
  refine X_seq ?_
  refine X_region ?_
  refine XL_det .no (D_pure rfl) rfl ?_
  refine XL_then ?_
  refine X_block ?_
  refine X_loop (α := Nat) (fun i => i ≤ a.l.length) (fun i => [(5, .int .i64 (i : Int)), (4, .int .i64 (lsum (a.l.take i))), (0, .slice a.oad a.l.length a.c)]) (fun i => [K]) (fun i => a.l.length - i) 0 ?_ (by refine ⟨?_, ?_, ?_, trivial⟩ <;> rfl) (by with_reducible repeat first | exact .nil _ | exact .here _ _ | exact Take.self _ | apply Take.cons | apply Out.there | apply Take.skip | exact Take.pre _ _ | apply Out.app) ?_
  · exact Nat.zero_le _
  · rintro i hi
    have hsi := lsum_in hb i
    refine X_seq ?_
    refine X_seq ?_
    refine X_region ?_
    refine XL_det .no (D_pure rfl) rfl ?_
    refine XL_det .no (D_pure rfl) rfl ?_
    refine XL_det .no (D_len rfl rfl slc_60) rfl ?_
    refine XL_det .no (D_pure rfl) rfl ?_
    refine XL_then ?_
    refine X_cond rfl (fun h1 => ?_) (fun h1 => ?_)
    · try simp only [decide_eq_true_eq, decide_eq_false_iff_not, Bool.not_eq_true', Bool.not_eq_false', beq_iff_eq, bne_iff_ne, beq_eq_false_iff_ne, bne_eq_false_iff_eq, Int.not_lt, Int.not_le, gt_iff_lt, ge_iff_le, ne_eq] at h1
      obtain ⟨y, hg⟩ : ∃ y, a.l[i]? = some y := ⟨_, List.getElem?_eq_getElem (by omega)⟩
      have hyb := hb y (List.mem_of_getElem? hg)
      refine X_skip ?_
      refine thenX_normal ?_
      refine X_seq ?_
      refine X_block ?_
      refine X_seq ?_
      refine X_region ?_
      refine XL_det .no (D_pure rfl) rfl ?_
      refine XL_det .no (D_pure rfl) rfl ?_
      refine XL_det .no (D_pure rfl) rfl ?_
      refine XL_det .no (D_idxSo rfl rfl slc_60 (a).nil0 rfl (by omega) rfl) rfl ?_
      refine XL_det .no (D_ela (enc := encI) (sz := 1) (i := i) (k := 0) (fun _ => rfl) rfl (by with_reducible repeat first | exact .here _ _ | apply Out.there | apply Out.app) ha tk_3 hg rfl) rfl ?_
      refine XL_callv .no en_95 rfl (radd _ y (by omega)) rfl ?_
      refine XL_det .no (D_pure rfl) rfl ?_
      refine XL_det .no (D_pure (v := .int .i64 (lsum (a.l.take i) + y)) rfl) rfl ?_
      refine XL_det .no (D_pure (v := .bool true) rfl) rfl ?_
      refine XL_det .no (D_pure rfl) rfl ?_
      refine XL_det .no (D_pure rfl) rfl ?_
      refine XL_then ?_
      refine X_seq ?_
      refine X_seq ?_
      refine X_region ?_
      refine XL_det .no (D_pure rfl) rfl ?_
      refine XL_det .no (D_pure rfl) rfl ?_
      refine XL_then ?_
      refine X_cond_f rfl rfl ?_
      refine X_skip ?_
      refine thenX_normal ?_
      refine X_region ?_
      refine XL_det .no (D_pure rfl) rfl ?_
      refine XL_det .no (D_pure rfl) rfl ?_
      refine XL_nil ?_
      refine inBlk_normal ?_
      refine thenX_normal ?_
      refine X_region ?_
      refine XL_det .no (D_pure rfl) rfl ?_
      refine XL_det .no (D_add rfl rfl (by omega) (by omega)) rfl ?_
      refine XL_det .no (D_pure rfl) rfl ?_
      refine XL_nil ?_
      refine loopQ_next (i + 1) ?_ ?_ ?_ ?_
      · omega
      · omega
      · refine ⟨?_, ?_, ?_, trivial⟩ <;> first | rfl | (rw [lsum_s hg]; rfl)
      · exact ⟨_, (by with_reducible repeat first | exact .nil _ | exact .here _ _ | exact Take.self _ | apply Take.cons | apply Out.there | apply Take.skip | exact Take.pre _ _ | apply Out.app)⟩
    · try simp only [decide_eq_true_eq, decide_eq_false_iff_not, Bool.not_eq_true', Bool.not_eq_false', beq_iff_eq, bne_iff_ne, beq_eq_false_iff_ne, bne_eq_false_iff_eq, Int.not_lt, Int.not_le, gt_iff_lt, ge_iff_le, ne_eq] at h1
      refine X_exit ?_
      refine thenX_exit ?_
      refine loopQ_exit ?_
      refine inBlk_here ?_
      refine thenX_normal ?_
      refine X_seq ?_
      refine X_region ?_
      refine XL_det .no (D_pure rfl) rfl ?_
      refine XL_det .no (D_pure rfl) rfl ?_
      refine XL_det .no (D_pure rfl) rfl ?_
      refine XL_then ?_
      refine X_ret ?_
      refine ret_ok (.nil _) (res_tmp2 rfl rfl rfl) ?_
      exact ⟨_, ⟨by rw [List.take_of_length_le (by omega)], rfl⟩, _, (by with_reducible repeat first | exact .nil _ | exact .here _ _ | exact Take.self _ | apply Take.cons | apply Out.there | apply Take.skip | exact Take.pre _ _ | apply Out.app)⟩

theorem rall (l : Arr (Nat → Int)) (hl : Rd K l.ad (l.l.flatMap encW4)) (hq : ∀ q ∈ l.l, W4Ok q) (hn : l.l.length ≤ 16) (n : Nat) (hn2 : n ≤ 100000) : Ctr Tryd.prog B 73 [.slice l.oad l.l.length l.c, .int .i64 (n : Int)] [K] (fun v S => v = .tuple #[.int .i64 (allV l.l n), .bool true] ∧ S = [K]) := by
  refine Ctr_of_X (N := 35) Tryd.func73 rfl (by simp) rfl ?_
  intro w0 D0
  refine X_seq ?_
  refine X_region ?_
  refine XL_det .no (D_pure rfl) rfl ?_
  refine XL_det .no (D_pure rfl) rfl ?_
  refine XL_then ?_
  refine X_seq ?_
  refine X_region ?_
  refine XL_det .no (D_pure rfl) rfl ?_
  refine XL_then ?_
  refine X_seq ?_
  refine X_seq ?_
  refine X_region ?_
  refine XL_det .no (D_pure rfl) rfl ?_
  refine XL_then ?_
  refine X_block ?_
  refine X_rowa encI 3 1 ?_
  refine X_loop (α := Nat × Arr Int) (fun ⟨i, a⟩ => i ≤ l.l.length ∧ a.l = (l.l.take i).map (fun q => workV q n) ∧ a.Own) (fun ⟨i, a⟩ => [(7, .int .i64 (i : Int)), (6, .slice a.oad a.l.length a.c), (0, .slice l.oad l.l.length l.c), (1, .int .i64 (n : Int))]) (fun ⟨i, a⟩ => [row (.slice a.oad a.l.length a.c) 3 1 a.l.length (a.l.flatMap encI), K]) (fun ⟨i, a⟩ => l.l.length - i) (0, Arr.emp) ?_ (by refine ⟨?_, ?_, ?_, ?_, trivial⟩ <;> rfl) (by repeat first | (with_reducible first | exact .nil _ | exact .here _ _) | exact .here _ _ | (with_reducible first | exact Take.self _ | apply Take.cons | apply Out.there | apply Take.skip | exact Take.pre _ _ | apply Out.app)) ?_
  · exact ⟨Nat.zero_le _, rfl, Arr.emp_own⟩
  · rintro ⟨i, a⟩ ⟨hi, ha, hao⟩
    dsimp only
    have hal : a.l.length ≤ i := by rw [ha]; simp; omega
    refine X_seq ?_
    refine X_seq ?_
    refine X_region ?_
    refine XL_det .no (D_pure rfl) rfl ?_
    refine XL_det .no (D_pure rfl) rfl ?_
    refine XL_det .no (D_len rfl rfl slc_136) rfl ?_
    refine XL_det .no (D_pure rfl) rfl ?_
    refine XL_then ?_
    refine X_cond rfl (fun h1 => ?_) (fun h1 => ?_)
    · try simp only [decide_eq_true_eq, decide_eq_false_iff_not, Bool.not_eq_true', Bool.not_eq_false', beq_iff_eq, bne_iff_ne, beq_eq_false_iff_ne, bne_eq_false_iff_eq, Int.not_lt, Int.not_le, gt_iff_lt, ge_iff_le, ne_eq] at h1
      obtain ⟨q, hg⟩ : ∃ q, l.l[i]? = some q := ⟨_, List.getElem?_eq_getElem (by omega)⟩
      have hqo := hq q (List.mem_of_getElem? hg)
      refine X_skip ?_
      refine thenX_normal ?_
      refine X_seq ?_
      refine X_block ?_
      refine X_seq ?_
      refine X_region ?_
      refine XL_det .no (D_pure rfl) rfl ?_
      refine XL_det .no (D_pure rfl) rfl ?_
      refine XL_det .no (D_idxSo rfl rfl slc_136 (l).nil0 rfl (by omega) rfl) rfl ?_
      refine XL_det .no (D_els (enc := encW4) (sz := 4) (i := i) (fun _ => rfl) rfl (by with_reducible repeat first | exact .here _ _ | apply Out.there | apply Out.app) hl tk_141 hg) rfl ?_
      refine XL_det .no (D_pure rfl) rfl ?_
      refine XL_callv .no en_96 rfl (rwork q hqo n hn2) rfl ?_
      refine XL_det .no (D_pure rfl) rfl ?_
      refine XL_det .no (D_pure (v := .int .i64 (workV q n)) rfl) rfl ?_
      refine XL_det .no (D_pure (v := .bool true) rfl) rfl ?_
      refine XL_det .no (D_pure rfl) rfl ?_
      refine XL_det .no (D_pure rfl) rfl ?_
      refine XL_then ?_
      refine X_seq ?_
      refine X_seq ?_
      refine X_region ?_
      refine XL_det .no (D_pure rfl) rfl ?_
      refine XL_det .no (D_pure rfl) rfl ?_
      refine XL_then ?_
      refine X_cond_f rfl rfl ?_
      refine X_skip ?_
      refine thenX_normal ?_
      refine X_region ?_
      refine XL_det .no (D_pure rfl) rfl ?_
      refine XL_det .no (D_pure rfl) rfl ?_
      refine XL_bslice (cs := [.int .i64 (workV q n)]) .no rfl slt_60 (by decide) (by decide) (by rfl) (by rfl) rfl rfl (fun b1 => ?_)
      refine XL_app1 (enc := encI) (c := a) (y := (workV q n)) (K := _) .no rfl rfl slt_60 (by with_reducible repeat first | exact .here _ _ | apply Out.there | apply Out.app) (by with_reducible repeat first | exact .here _ _ | apply Out.there | apply Out.app) (Rd_blk0) rfl rfl (by omega) (by omega) rfl (fun a2 ha2 ha2o => ?_)
      refine XL_det .no (D_pure rfl) rfl ?_
      refine XL_nil ?_
      refine inBlk_normal ?_
      refine thenX_normal ?_
      refine X_region ?_
      refine XL_det .no (D_pure rfl) rfl ?_
      refine XL_det .no (D_add rfl rfl (by omega) (by omega)) rfl ?_
      refine XL_det .no (D_pure rfl) rfl ?_
      refine XL_nil ?_
      refine loopQ_next (i + 1, a2) ?_ ?_ ?_ ?_
      · (try dsimp only); exact ⟨by omega, by rw [ha2, ha, List.take_add_one, hg]; simp, ha2o⟩
      · (try dsimp only); omega
      · refine ⟨?_, ?_, ?_, ?_, trivial⟩ <;> rfl
      · (try dsimp only); exact ⟨_, (by repeat first | (with_reducible first | exact .nil _ | exact .here _ _) | exact .here _ _ | (with_reducible first | exact Take.self _ | apply Take.cons | apply Out.there | apply Take.skip | exact Take.pre _ _ | apply Out.app))⟩
    · try simp only [decide_eq_true_eq, decide_eq_false_iff_not, Bool.not_eq_true', Bool.not_eq_false', beq_iff_eq, bne_iff_ne, beq_eq_false_iff_ne, bne_eq_false_iff_eq, Int.not_lt, Int.not_le, gt_iff_lt, ge_iff_le, ne_eq] at h1
      refine X_exit ?_
      refine thenX_exit ?_
      refine loopQ_exit ?_
      refine inBlk_here ?_
      refine thenX_normal ?_
      refine X_seq ?_
      refine X_region ?_
      refine XL_det .no (D_pure rfl) rfl ?_
      refine XL_callk .no en_97 rfl (rsum a (Rd_own hao rfl) (fun x hx => by rw [ha] at hx; obtain ⟨q, hq1, rfl⟩ := List.mem_map.1 hx; exact (work_in (hq q (List.mem_of_mem_take hq1)) hn2).2) (by rw [ha]; simp; omega)) (by with_reducible repeat first | exact .nil _ | exact .here _ _ | exact Take.self _ | apply Take.cons | apply Out.there | apply Take.skip | exact Take.pre _ _ | apply Out.app) rfl ?_
      refine XL_det .no (D_pure (v := .int .i64 (lsum a.l)) rfl) rfl ?_
      refine XL_det .no (D_pure (v := .bool true) rfl) rfl ?_
      refine XL_det .no (D_pure rfl) rfl ?_
      refine XL_det .no (D_pure rfl) rfl ?_
      refine XL_then ?_
      refine X_ret ?_
      refine ret_ok (.nil _) (res_tmp2 rfl rfl rfl) ?_
      exact ⟨_, ⟨by rw [ha, List.take_of_length_le (by omega)]; rfl, rfl⟩, _, (by repeat first | (with_reducible first | exact .nil _ | exact .here _ _) | exact .here _ _ | (with_reducible first | exact Take.self _ | apply Take.cons | apply Out.there | apply Take.skip | exact Take.pre _ _ | apply Out.app))⟩

theorem rahd (x : Img) (hx : x.In K) (hT : TsOk x.tasks.l) (s : BitVec 32) (k : Nat) (hk : k ≤ x.tasks.l.length) : Ctr Tryd.prog B 71 [x.v, .int .u32 s.toNat, .int .i64 (k : Int)] [K] (fun v S => ∃ a : Arr (Nat → Int), (a.l = aheadN x.tasks.l s k ∧ a.Own) ∧ v = a.v ∧ S = [row (.slice a.oad a.l.length a.c) 141 4 a.l.length (a.l.flatMap encW4), K]) := by
  refine Ctr_of_X (N := 41) Tryd.func71 rfl (by simp) rfl ?_
  intro w0 D0
  refine X_seq ?_
  refine X_region ?_
  refine XL_box .no rfl rfl rfl (fun b1 => ?_)
  refine XL_det .no (D_pure rfl) rfl ?_
  refine XL_then ?_
  refine X_seq ?_
  refine X_region ?_
  refine XL_det .no (D_pure rfl) rfl ?_
  refine XL_then ?_
  refine X_seq ?_
  refine X_seq ?_
  refine X_region ?_
  refine XL_det .no (D_pure rfl) rfl ?_
  refine XL_then ?_
  refine X_block ?_
  refine X_rowa encW4 141 4 ?_
  refine X_loop (α := Nat × Arr (Nat → Int)) (fun ⟨i, a⟩ => i ≤ k ∧ a.l = aheadN x.tasks.l s i ∧ a.Own) (fun ⟨i, a⟩ => [(8, .int .i64 (i : Int)), (7, .slice a.oad a.l.length a.c), (1, .int .u32 s.toNat), (2, .int .i64 (k : Int)), (3, .pointer (some ⟨b1, 0, none⟩))]) (fun ⟨i, a⟩ => [blk b1 [.int .i64 x.res, .slice x.tasks.oad x.tasks.l.length x.tasks.c, .slice x.modes.oad x.modes.l.length x.modes.c, .slice x.edges.oad x.edges.l.length x.edges.c] 26, row (.slice a.oad a.l.length a.c) 141 4 a.l.length (a.l.flatMap encW4), K]) (fun ⟨i, a⟩ => k - i) (0, Arr.emp) ?_ (by refine ⟨?_, ?_, ?_, ?_, ?_, trivial⟩ <;> rfl) (by repeat first | (with_reducible first | exact .nil _ | exact .here _ _) | exact .here _ _ | (with_reducible first | exact Take.self _ | apply Take.cons | apply Out.there | apply Take.skip | exact Take.pre _ _ | apply Out.app)) ?_
  · exact ⟨Nat.zero_le _, rfl, Arr.emp_own⟩
  · rintro ⟨i, a⟩ ⟨hi, ha, hao⟩
    dsimp only
    have hal := ahead_len x.tasks.l s i
    rw [← ha] at hal
    have hn16 := hT.n
    refine X_seq ?_
    refine X_seq ?_
    refine X_region ?_
    refine XL_det .no (D_pure rfl) rfl ?_
    refine XL_det .no (D_fld rfl fld_26_1 (o' := 1) rfl) rfl ?_
    refine XL_det .no (D_ldo rfl (by with_reducible repeat first | exact .here _ _ | apply Out.there | apply Out.app) tk_22 (by rfl)) rfl ?_
    refine XL_det .no (D_len rfl rfl slc_22) rfl ?_
    refine XL_det .no (D_pure rfl) rfl ?_
    refine XL_det .no (D_pure rfl) rfl ?_
    refine XL_split (t := 14) rfl (fun h1 => ?_) (fun h1 => ?_)
    · try simp only [decide_eq_true_eq, decide_eq_false_iff_not, Bool.not_eq_true', Bool.not_eq_false', beq_iff_eq, bne_iff_ne, beq_eq_false_iff_ne, bne_eq_false_iff_eq, Int.not_lt, Int.not_le, gt_iff_lt, ge_iff_le, ne_eq] at h1
      refine XL_det (.yes 14 rfl rfl rfl) (D_pure rfl) rfl ?_
      refine XL_det (.yes 14 rfl rfl rfl) (D_pure rfl) rfl ?_
      refine XL_det (.yes 14 rfl rfl rfl) (D_pure rfl) rfl ?_
      refine XL_det .no (D_pure rfl) rfl ?_
      refine XL_then ?_
      refine X_cond rfl (fun h2 => ?_) (fun h2 => ?_)
      · try simp only [decide_eq_true_eq, decide_eq_false_iff_not, Bool.not_eq_true', Bool.not_eq_false', beq_iff_eq, bne_iff_ne, beq_eq_false_iff_ne, bne_eq_false_iff_eq, Int.not_lt, Int.not_le, gt_iff_lt, ge_iff_le, ne_eq] at h2
        obtain ⟨e, he⟩ : ∃ e, x.tasks.l[i]? = some e := ⟨_, List.getElem?_eq_getElem (by omega)⟩
        obtain rfl : tk x.tasks.l i = e := tk_at he
        refine X_skip ?_
        refine thenX_normal ?_
        refine X_seq ?_
        refine X_block ?_
        refine X_seq ?_
        refine X_region ?_
        refine XL_det .no (D_pure rfl) rfl ?_
        refine XL_det .no (D_pure rfl) rfl ?_
        refine XL_callv .no en_37 rfl (has s (i : Int)) rfl ?_
        refine XL_then ?_
        refine X_cond rfl (fun h3 => ?_) (fun h3 => ?_)
        · try simp only [decide_eq_true_eq, decide_eq_false_iff_not, Bool.not_eq_true', Bool.not_eq_false', beq_iff_eq, bne_iff_ne, beq_eq_false_iff_ne, bne_eq_false_iff_eq, Int.not_lt, Int.not_le, gt_iff_lt, ge_iff_le, ne_eq] at h3
          refine X_draw [blk b1 [.int .i64 x.res, .slice x.tasks.oad x.tasks.l.length x.tasks.c, .slice x.modes.oad x.modes.l.length x.modes.c, .slice x.edges.oad x.edges.l.length x.edges.c] 26, K] mixed (by with_reducible repeat first | exact .nil _ | exact .here _ _ | exact Take.self _ | apply Take.cons | apply Out.there | apply Take.skip | exact Take.pre _ _ | apply Out.app) ?_
          refine XA_detp 0 rfl (by kernel_rfl) (by kernel_rfl) (by kernel_rfl) (fun _ _ _ _ h => h) .no (D_pureP rfl) rfl ?_
          refine XA_detp 1 rfl (by kernel_rfl) (by kernel_rfl) (by kernel_rfl) (fun _ _ _ _ h => h) .no (D_fldP rfl fld_26_1 (o' := 1) rfl) rfl ?_
          refine XA_det 2 rfl (by kernel_rfl) (by kernel_rfl) (by kernel_rfl) (by kernel_rfl) (fun _ _ _ _ h => h) .no (D_ldo rfl (by with_reducible repeat first | exact .here _ _ | apply Out.there | apply Out.app) tk_22 (by rfl)) rfl ?_
          refine XA_detp 3 rfl (by kernel_rfl) (by kernel_rfl) (by kernel_rfl) (fun _ _ _ _ h => h) .no (D_pureP rfl) rfl ?_
          refine XA_detp 4 rfl (by kernel_rfl) (by kernel_rfl) (by kernel_rfl) (fun _ _ _ _ h => h) .no (D_idxSoP rfl rfl slc_22 (x.tasks).nil0 rfl (by omega) rfl) rfl ?_
          refine XA_detp 5 rfl (by kernel_rfl) (by kernel_rfl) (by kernel_rfl) (fun _ _ _ _ h => h) .no (D_fldAP rfl fld_48_0 rfl) rfl ?_
          refine XA_det 6 rfl (by kernel_rfl) (by kernel_rfl) (by kernel_rfl) (by kernel_rfl) (fun _ _ _ _ h => h) .no (D_ela (enc := encT) (sz := 11) (i := i) (k := 0) (fun _ => rfl) rfl (by with_reducible repeat first | exact .here _ _ | apply Out.there | apply Out.app) hx.tasks tk_3 he rfl) rfl ?_
          refine XA_detp 7 rfl (by kernel_rfl) (by kernel_rfl) (by kernel_rfl) (fun _ _ _ _ h => h) .no (D_fldP rfl fld_26_1 (o' := 1) rfl) rfl ?_
          refine XA_det 8 rfl (by kernel_rfl) (by kernel_rfl) (by kernel_rfl) (by kernel_rfl) (fun _ _ _ _ h => h) .no (D_ldo rfl (by with_reducible repeat first | exact .here _ _ | apply Out.there | apply Out.app) tk_22 (by rfl)) rfl ?_
          refine XA_detp 9 rfl (by kernel_rfl) (by kernel_rfl) (by kernel_rfl) (fun _ _ _ _ h => h) .no (D_pureP rfl) rfl ?_
          refine XA_detp 10 rfl (by kernel_rfl) (by kernel_rfl) (by kernel_rfl) (fun _ _ _ _ h => h) .no (D_idxSoP rfl rfl slc_22 (x.tasks).nil0 rfl (by omega) rfl) rfl ?_
          refine XA_detp 11 rfl (by kernel_rfl) (by kernel_rfl) (by kernel_rfl) (fun _ _ _ _ h => h) .no (D_fldAP rfl fld_48_2 rfl) rfl ?_
          refine XA_det 12 rfl (by kernel_rfl) (by kernel_rfl) (by kernel_rfl) (by kernel_rfl) (fun _ _ _ _ h => h) .no (D_ela (enc := encT) (sz := 11) (i := i) (k := 2) (fun _ => rfl) rfl (by with_reducible repeat first | exact .here _ _ | apply Out.there | apply Out.app) hx.tasks tk_3 he rfl) rfl ?_
          refine XA_det 13 rfl (by kernel_rfl) (by kernel_rfl) (by kernel_rfl) (by kernel_rfl) (fun _ _ _ _ h => h) .no (D_build [_, _, _, _] rfl bld_141 (by rfl)) rfl ?_
          refine XA_one 14 (by kernel_rfl) ?_
          refine XO_bslice (cs := ([(wT (tk x.tasks.l i))] : List (Nat → Int)).flatMap encW4) rfl .no rfl slt_136 (by decide) (by decide) (by rfl) (by rfl) rfl rfl (fun bd38 => ?_)
          refine XA_one 15 (by kernel_rfl) ?_
          refine XO_appa (enc := encW4) (c := a) (b := Arr.lit bd38 [(wT (tk x.tasks.l i))] (by simp)) rfl .no rfl rfl slt_136 (by with_reducible repeat first | exact .here _ _ | apply Out.there | apply Out.app) (by with_reducible repeat first | exact .nil _ | apply App.cons) (show Out (blk bd38 (([(wT (tk x.tasks.l i))] : List (Nat → Int)).flatMap encW4) 141) _ _ from (by with_reducible repeat first | exact .here _ _ | apply Out.there | apply Out.app)) Rd_blk0 (fun _ => rfl) (fun _ => rfl) (by show a.l.length + 1 ≤ _; omega) (by show (a.l.length + 1) * _ ≤ _; omega) rfl (fun a2 ha2 ha2o => ?_)
          refine XA_detp 16 rfl (by kernel_rfl) (by kernel_rfl) (by kernel_rfl) (fun _ _ _ _ h => h) .no (D_pureP rfl) rfl ?_
          refine XA_done (by kernel_rfl) ?_
          try simp only [List.cons_append, List.nil_append, List.append_nil]
          refine inBlk_normal ?_
          refine thenX_normal ?_
          refine X_region ?_
          refine XL_det .no (D_pure rfl) rfl ?_
          refine XL_det .no (D_add rfl rfl (by omega) (by omega)) rfl ?_
          refine XL_det .no (D_pure rfl) rfl ?_
          refine XL_nil ?_
          refine loopQ_next (i + 1, a2) ?_ ?_ ?_ ?_
          · (try dsimp only); exact ⟨by omega, by rw [ha2, ha, aheadN, if_pos h3]; rfl, ha2o⟩
          · (try dsimp only); omega
          · refine ⟨?_, ?_, ?_, ?_, ?_, trivial⟩ <;> rfl
          · (try dsimp only); exact ⟨_, (by repeat first | (with_reducible first | exact .nil _ | exact .here _ _) | exact .here _ _ | (with_reducible first | exact Take.self _ | apply Take.cons | apply Out.there | apply Take.skip | exact Take.pre _ _ | apply Out.app))⟩
        · try simp only [decide_eq_true_eq, decide_eq_false_iff_not, Bool.not_eq_true', Bool.not_eq_false', beq_iff_eq, bne_iff_ne, beq_eq_false_iff_ne, bne_eq_false_iff_eq, Int.not_lt, Int.not_le, gt_iff_lt, ge_iff_le, ne_eq] at h3
          refine X_skip ?_
          refine inBlk_normal ?_
          refine thenX_normal ?_
          refine X_region ?_
          refine XL_det .no (D_pure rfl) rfl ?_
          refine XL_det .no (D_add rfl rfl (by omega) (by omega)) rfl ?_
          refine XL_det .no (D_pure rfl) rfl ?_
          refine XL_nil ?_
          refine loopQ_next (i + 1, a) ?_ ?_ ?_ ?_
          · (try dsimp only); exact ⟨by omega, by rw [ha, aheadN, if_neg (by rw [h3]; decide)], hao⟩
          · (try dsimp only); omega
          · refine ⟨?_, ?_, ?_, ?_, ?_, trivial⟩ <;> rfl
          · (try dsimp only); exact ⟨_, (by repeat first | (with_reducible first | exact .nil _ | exact .here _ _) | exact .here _ _ | (with_reducible first | exact Take.self _ | apply Take.cons | apply Out.there | apply Take.skip | exact Take.pre _ _ | apply Out.app))⟩
      · try simp only [decide_eq_true_eq, decide_eq_false_iff_not, Bool.not_eq_true', Bool.not_eq_false', beq_iff_eq, bne_iff_ne, beq_eq_false_iff_ne, bne_eq_false_iff_eq, Int.not_lt, Int.not_le, gt_iff_lt, ge_iff_le, ne_eq] at h2
        obtain rfl : i = k := by omega
        refine X_exit ?_
        refine thenX_exit ?_
        refine loopQ_exit ?_
        refine inBlk_here ?_
        refine thenX_normal ?_
        refine X_seq ?_
        refine X_region ?_
        refine XL_det .no (D_pure rfl) rfl ?_
        refine XL_det .no (D_pure rfl) rfl ?_
        refine XL_then ?_
        refine X_ret ?_
        refine ret_ok (.nil _) (res_tmp rfl rfl) ?_
        exact ⟨[row (.slice a.oad a.l.length a.c) 141 4 a.l.length (a.l.flatMap encW4), K], ⟨a, ⟨ha, hao⟩, rfl, rfl⟩, _, (by repeat first | (with_reducible first | exact .nil _ | exact .here _ _) | exact .here _ _ | (with_reducible first | exact Take.self _ | apply Take.cons | apply Out.there | apply Take.skip | exact Take.pre _ _ | apply Out.app))⟩
    · try simp only [decide_eq_true_eq, decide_eq_false_iff_not, Bool.not_eq_true', Bool.not_eq_false', beq_iff_eq, bne_iff_ne, beq_eq_false_iff_ne, bne_eq_false_iff_eq, Int.not_lt, Int.not_le, gt_iff_lt, ge_iff_le, ne_eq] at h1
      obtain rfl : i = k := by omega
      refine XL_skip 14 rfl rfl rfl rfl rfl ?_
      refine XL_skip 14 rfl rfl rfl rfl rfl ?_
      refine XL_skip 14 rfl rfl rfl rfl rfl ?_
      refine XL_det .no (D_pure rfl) rfl ?_
      refine XL_then ?_
      refine X_cond_f rfl rfl ?_
      refine X_exit ?_
      refine thenX_exit ?_
      refine loopQ_exit ?_
      refine inBlk_here ?_
      refine thenX_normal ?_
      refine X_seq ?_
      refine X_region ?_
      refine XL_det .no (D_pure rfl) rfl ?_
      refine XL_det .no (D_pure rfl) rfl ?_
      refine XL_then ?_
      refine X_ret ?_
      refine ret_ok (.nil _) (res_tmp rfl rfl) ?_
      exact ⟨[row (.slice a.oad a.l.length a.c) 141 4 a.l.length (a.l.flatMap encW4), K], ⟨a, ⟨ha, hao⟩, rfl, rfl⟩, _, (by repeat first | (with_reducible first | exact .nil _ | exact .here _ _) | exact .here _ _ | (with_reducible first | exact Take.self _ | apply Take.cons | apply Out.there | apply Take.skip | exact Take.pre _ _ | apply Out.app))⟩

end Go.Proofs.YtkkdchgnknpceaaDoor
end

section
namespace Go.Proofs.YtkkdchgnknpceaaDoor
open Go Go.Sl
set_option linter.unusedVariables false
set_option linter.unusedSimpArgs false
set_option maxRecDepth 4000
variable {B : Nat} {K : Asrt B}
theorem en_36 : Go.Proofs.Enters Tryd.prog 36 := Go.Proofs.enters_of Tryd.func36 (by kernel_rfl) rfl
theorem en_70 : Go.Proofs.Enters Tryd.prog 70 := Go.Proofs.enters_of Tryd.func70 (by kernel_rfl) rfl
theorem en_71 : Go.Proofs.Enters Tryd.prog 71 := Go.Proofs.enters_of Tryd.func71 (by kernel_rfl) rfl
theorem en_73 : Go.Proofs.Enters Tryd.prog 73 := Go.Proofs.enters_of Tryd.func73 (by kernel_rfl) rfl

theorem work_wT {e : Nat → Int} (n : Nat) : workV (wT e) n = e 2 * (cd n (e 0).toNat : Int) := by
  show (cd n (e 0).toNat : Int) * e 2 + 0 = _; rw [Int.add_zero, Int.mul_comm]
theorem all_ahead {ts : List (Nat → Int)} {s : BitVec 32} {k : Nat} (hk : k ≤ ts.length) (r : Nat) : allV (aheadN ts s k) r = sumI (fun j => if inS ts s j then tk ts j 2 * (cd r (tk ts j 0).toNat : Int) else 0) k := by
  unfold allV
  rw [ahead_sum (fun q => workV q r) k hk]
  exact sumI_ext k fun j _ => by rw [work_wT]
def cyW (q : Nat → Int) : Nat → Int := fun k => if k = 3 then q 1 else q k
def cyL (l : List (Nat → Int)) (i : Nat) : List (Nat → Int) := (l.take i).map cyW ++ l.drop i
theorem cyL_0 (l : List (Nat → Int)) : cyL l 0 = l := by simp [cyL]
theorem cyL_end (l : List (Nat → Int)) : cyL l l.length = l.map cyW := by simp [cyL]
theorem cyL_get {l : List (Nat → Int)} {i : Nat} {q : Nat → Int} (h : l[i]? = some q) : (cyL l i)[i]? = some q := by
  have hi := (List.getElem?_eq_some_iff.1 h).1
  have hl : ((l.take i).map cyW).length = i := by simp; omega
  unfold cyL; rw [List.getElem?_append_right (by omega), hl]; simpa using h
theorem cyL_set {l : List (Nat → Int)} {i : Nat} {q : Nat → Int} (h : l[i]? = some q) : (cyL l i).set i (cyW q) = cyL l (i + 1) := by
  have hi := (List.getElem?_eq_some_iff.1 h).1
  have hl : ((l.take i).map cyW).length = i := by simp; omega
  unfold cyL
  rw [List.set_append_right _ _ (by omega), hl, List.take_add_one, h, Nat.sub_self, List.drop_eq_getElem_cons hi, List.set_cons_zero]
  simp
theorem cyL_len (l : List (Nat → Int)) {i : Nat} (h : i ≤ l.length) : (cyL l i).length = l.length := by simp [cyL]; omega
theorem cy_ok {q : Nat → Int} (h : W4Ok q) : W4Ok (cyW q) := ⟨h.p, h.c, h.o, h.c⟩
theorem all_busy {ts : List (Nat → Int)} {s : BitVec 32} {k : Nat} (hk : k ≤ ts.length) (r : Nat) : allV ((aheadN ts s k).map cyW) r = sumI (fun j => if inS ts s j then tk ts j 2 * ((cd r (tk ts j 0).toNat : Int) + 1) else 0) k := by
  unfold allV
  rw [List.map_map, ahead_sum _ k hk]
  refine sumI_ext k fun j _ => ?_
  have : workV (cyW (wT (tk ts j))) r = tk ts j 2 * ((cd r (tk ts j 0).toNat : Int) + 1) := by
    show (cd r (tk ts j 0).toNat : Int) * tk ts j 2 + tk ts j 2 = _; rw [Int.mul_add, Int.mul_one, Int.mul_comm]
  show (if inS ts s j then workV (cyW (wT (tk ts j))) r else 0) = _
  rw [this]
theorem sumI_more {f : Nat → Int} {n : Nat} : ∀ d, (∀ j, n ≤ j → f j = 0) → sumI f (n + d) = sumI f n
  | 0, _ => rfl
  | d + 1, h => by show sumI f (n + d) + f (n + d) = _; rw [sumI_more d h, h _ (by omega)]; omega
theorem tsok_of {x : Img} (h : RightP x) : TsOk x.tasks.l := ⟨h.nt.2, fun e he => ⟨(h.tasks e he).p, (h.tasks e he).d, (h.tasks e he).c, fun r hr => ⟨((h.tasks e he).l r hr).1, ((h.tasks e he).l r hr).2.1⟩⟩⟩
theorem resp_of {ts : List (Nat → Int)} {s : BitVec 32} {k r : Nat} {e : Nat → Int} (he : ts[k]? = some e) (h1 : 1 ≤ r) (h2 : (r : Int) ≤ e 1) (h3 : e 2 + blkV ts s s k + allV (aheadN ts s k) r ≤ r) : RespP ts s k r := by
  have hk := (List.getElem?_eq_some_iff.1 he).1
  rw [all_ahead (by omega)] at h3
  exact ⟨h1, by rw [tk_at he]; exact h2, by rw [tk_at he]; exact h3⟩
def Arr.mapl {α : Type} (a : Arr α) (f : α → α) : Arr α := ⟨a.oad, a.c, a.l.map f, fun h => by rw [a.nil h]; rfl, by simpa using a.small, by simpa using a.cap⟩

theorem lfew (x : Img) (hx : x.In K) : Ctr Tryd.prog B 33 [x.v] [K] (fun v S => ∃ b, v = .bool b ∧ S = [K]) := by
  refine Ctr_of_X (N := 18) Tryd.func33 rfl (by simp) rfl ?_
  intro w0 D0
  refine X_seq ?_
  refine X_region ?_
  refine XL_box .no rfl rfl rfl (fun b1 => ?_)
  refine XL_det .no (D_pure rfl) rfl ?_
  refine XL_then ?_
  refine X_seq ?_
  refine X_seq ?_
  refine X_region ?_
  refine XL_det .no (D_pure rfl) rfl ?_
  refine XL_then ?_
  refine X_block ?_
  refine X_loop (α := Nat) (fun i => i ≤ x.tasks.l.length) (fun i => [(3, .int .i64 (i : Int)), (1, .pointer (some ⟨b1, 0, none⟩))]) (fun i => [blk b1 [.int .i64 x.res, .slice x.tasks.oad x.tasks.l.length x.tasks.c, .slice x.modes.oad x.modes.l.length x.modes.c, .slice x.edges.oad x.edges.l.length x.edges.c] 26, K]) (fun i => x.tasks.l.length - i) 0 ?_ (by refine ⟨?_, ?_, trivial⟩ <;> rfl) (by with_reducible repeat first | exact .nil _ | exact .here _ _ | exact Take.self _ | apply Take.cons | apply Out.there | apply Take.skip | exact Take.pre _ _ | apply Out.app) ?_
  · exact Nat.zero_le _
  · rintro i hi
    have hsm := x.tasks.small
    refine X_seq ?_
    refine X_seq ?_
    refine X_region ?_
    refine XL_det .no (D_pure rfl) rfl ?_
    refine XL_det .no (D_fld rfl fld_26_1 (o' := 1) rfl) rfl ?_
    refine XL_det .no (D_ldo rfl (by with_reducible repeat first | exact .here _ _ | apply Out.there | apply Out.app) tk_22 (by rfl)) rfl ?_
    refine XL_det .no (D_len rfl rfl slc_22) rfl ?_
    refine XL_det .no (D_pure rfl) rfl ?_
    refine XL_then ?_
    refine X_cond rfl (fun h1 => ?_) (fun h1 => ?_)
    · try simp only [decide_eq_true_eq, decide_eq_false_iff_not, Bool.not_eq_true', Bool.not_eq_false', beq_iff_eq, bne_iff_ne, beq_eq_false_iff_ne, bne_eq_false_iff_eq, Int.not_lt, Int.not_le, gt_iff_lt, ge_iff_le, ne_eq] at h1
      obtain ⟨e, he⟩ : ∃ e, x.tasks.l[i]? = some e := ⟨_, List.getElem?_eq_getElem (by omega)⟩
      refine X_skip ?_
      refine thenX_normal ?_
      refine X_seq ?_
      refine X_block ?_
      refine X_seq ?_
      refine X_region ?_
      refine XL_det .no (D_fld rfl fld_26_1 (o' := 1) rfl) rfl ?_
      refine XL_det .no (D_ldo rfl (by with_reducible repeat first | exact .here _ _ | apply Out.there | apply Out.app) tk_22 (by rfl)) rfl ?_
      refine XL_det .no (D_pure rfl) rfl ?_
      refine XL_det .no (D_idxSo rfl rfl slc_22 (x.tasks).nil0 rfl (by omega) rfl) rfl ?_
      refine XL_det .no (D_fldA rfl fld_48_0 rfl) rfl ?_
      refine XL_det .no (D_ela (enc := encT) (sz := 11) (i := i) (k := 0) (fun _ => rfl) rfl (by with_reducible repeat first | exact .here _ _ | apply Out.there | apply Out.app) hx.tasks tk_3 he rfl) rfl ?_
      refine XL_det .no (D_pure rfl) rfl ?_
      refine XL_then ?_
      refine X_cond rfl (fun h2 => ?_) (fun h2 => ?_)
      · try simp only [decide_eq_true_eq, decide_eq_false_iff_not, Bool.not_eq_true', Bool.not_eq_false', beq_iff_eq, bne_iff_ne, beq_eq_false_iff_ne, bne_eq_false_iff_eq, Int.not_lt, Int.not_le, gt_iff_lt, ge_iff_le, ne_eq] at h2
        refine X_seq ?_
        refine X_region ?_
        refine XL_det .no (D_pure rfl) rfl ?_
        refine XL_then ?_
        refine X_ret ?_
        refine inBlk_ret ?_
        refine thenX_ret ?_
        refine loopQ_ret ?_
        refine inBlk_ret ?_
        refine thenX_ret ?_
        refine ret_ok (.nil _) (res_tmp rfl rfl) ?_
        exact ⟨[K], ⟨_, rfl, rfl⟩, _, (by repeat first | (with_reducible first | exact .nil _ | exact .here _ _) | exact .here _ _ | (with_reducible first | exact Take.self _ | apply Take.cons | apply Out.there | apply Take.skip | exact Take.pre _ _ | apply Out.app))⟩
      · try simp only [decide_eq_true_eq, decide_eq_false_iff_not, Bool.not_eq_true', Bool.not_eq_false', beq_iff_eq, bne_iff_ne, beq_eq_false_iff_ne, bne_eq_false_iff_eq, Int.not_lt, Int.not_le, gt_iff_lt, ge_iff_le, ne_eq] at h2
        refine X_skip ?_
        refine inBlk_normal ?_
        refine thenX_normal ?_
        refine X_region ?_
        refine XL_det .no (D_pure rfl) rfl ?_
        refine XL_det .no (D_add rfl rfl (by omega) (by omega)) rfl ?_
        refine XL_det .no (D_pure rfl) rfl ?_
        refine XL_nil ?_
        refine loopQ_next (i + 1) ?_ ?_ ?_ ?_
        · omega
        · omega
        · refine ⟨?_, ?_, trivial⟩ <;> rfl
        · exact ⟨_, (by with_reducible repeat first | exact .nil _ | exact .here _ _ | exact Take.self _ | apply Take.cons | apply Out.there | apply Take.skip | exact Take.pre _ _ | apply Out.app)⟩
    · try simp only [decide_eq_true_eq, decide_eq_false_iff_not, Bool.not_eq_true', Bool.not_eq_false', beq_iff_eq, bne_iff_ne, beq_eq_false_iff_ne, bne_eq_false_iff_eq, Int.not_lt, Int.not_le, gt_iff_lt, ge_iff_le, ne_eq] at h1
      refine X_exit ?_
      refine thenX_exit ?_
      refine loopQ_exit ?_
      refine inBlk_here ?_
      refine thenX_normal ?_
      refine X_seq ?_
      refine X_region ?_
      refine XL_det .no (D_pure rfl) rfl ?_
      refine XL_then ?_
      refine X_ret ?_
      refine ret_ok (.nil _) (res_tmp rfl rfl) ?_
      exact ⟨[K], ⟨_, rfl, rfl⟩, _, (by repeat first | (with_reducible first | exact .nil _ | exact .here _ _) | exact .here _ _ | (with_reducible first | exact Take.self _ | apply Take.cons | apply Out.there | apply Take.skip | exact Take.pre _ _ | apply Out.app))⟩

theorem rlst (o : Nat) (most : Int) (ho : 1 ≤ o ∧ o ≤ 100000) (hm : most ≤ 4096) (l : Arr (Nat → Int)) (hl : Rd K l.ad (l.l.flatMap encW4)) (hq : ∀ q ∈ l.l, W4Ok q) (hn : l.l.length ≤ 16) : Ctr Tryd.prog B 70 [.int .i64 (o : Int), .int .i64 most, .slice l.oad l.l.length l.c] [K] (fun v S => ∃ n ok, v = .tuple #[.int .i64 n, .bool ok] ∧ (ok = true → ∃ r : Nat, n = r ∧ 1 ≤ r ∧ (r : Int) ≤ most ∧ (o : Int) + allV l.l r ≤ r) ∧ S = [K]) := by
  refine Ctr_of_X (N := 43) Tryd.func70 rfl (by simp) rfl ?_
  intro w0 D0
  refine X_seq ?_
  refine X_region ?_
  refine XL_det .no (D_pure rfl) rfl ?_
  refine XL_det .no (D_pure rfl) rfl ?_
  refine XL_then ?_
  refine X_seq ?_
  refine X_seq ?_
  refine X_region ?_
  refine XL_det .no (D_pure rfl) rfl ?_
  refine XL_det .no (D_pure rfl) rfl ?_
  refine XL_then ?_
  refine X_cond rfl (fun h1 => ?_) (fun h1 => ?_)
  · try simp only [decide_eq_true_eq, decide_eq_false_iff_not, Bool.not_eq_true', Bool.not_eq_false', beq_iff_eq, bne_iff_ne, beq_eq_false_iff_ne, bne_eq_false_iff_eq, Int.not_lt, Int.not_le, gt_iff_lt, ge_iff_le, ne_eq] at h1
    omega
  · try simp only [decide_eq_true_eq, decide_eq_false_iff_not, Bool.not_eq_true', Bool.not_eq_false', beq_iff_eq, bne_iff_ne, beq_eq_false_iff_ne, bne_eq_false_iff_eq, Int.not_lt, Int.not_le, gt_iff_lt, ge_iff_le, ne_eq] at h1
    refine X_skip ?_
    refine thenX_normal ?_
    refine X_seq ?_
    refine X_region ?_
    refine XL_det .no (D_pure rfl) rfl ?_
    refine XL_det .no (D_pure rfl) rfl ?_
    refine XL_then ?_
    refine X_seq ?_
    refine X_seq ?_
    refine X_region ?_
    refine XL_det .no (D_pure rfl) rfl ?_
    refine XL_det .no (D_pure rfl) rfl ?_
    refine XL_then ?_
    refine X_cond rfl (fun h2 => ?_) (fun h2 => ?_)
    · try simp only [decide_eq_true_eq, decide_eq_false_iff_not, Bool.not_eq_true', Bool.not_eq_false', beq_iff_eq, bne_iff_ne, beq_eq_false_iff_ne, bne_eq_false_iff_eq, Int.not_lt, Int.not_le, gt_iff_lt, ge_iff_le, ne_eq] at h2
      omega
    · try simp only [decide_eq_true_eq, decide_eq_false_iff_not, Bool.not_eq_true', Bool.not_eq_false', beq_iff_eq, bne_iff_ne, beq_eq_false_iff_ne, bne_eq_false_iff_eq, Int.not_lt, Int.not_le, gt_iff_lt, ge_iff_le, ne_eq] at h2
      refine X_skip ?_
      refine thenX_normal ?_
      refine X_seq ?_
      refine X_block ?_
      refine X_loop (α := Nat) (fun w => 1 ≤ w) (fun w => [(8, .int .i64 (w : Int)), (0, .int .i64 (o : Int)), (1, .int .i64 most), (2, .slice l.oad l.l.length l.c)]) (fun w => [K]) (fun w => 4097 - w) o ?_ (by refine ⟨?_, ?_, ?_, ?_, trivial⟩ <;> rfl) (by with_reducible repeat first | exact .nil _ | exact .here _ _ | exact Take.self _ | apply Take.cons | apply Out.there | apply Take.skip | exact Take.pre _ _ | apply Out.app) ?_
      · exact ho.1
      · rintro w hw
        refine X_seq ?_
        refine X_seq ?_
        refine X_region ?_
        refine XL_det .no (D_pure rfl) rfl ?_
        refine XL_det .no (D_pure rfl) rfl ?_
        refine XL_det .no (D_pure rfl) rfl ?_
        refine XL_then ?_
        refine X_cond rfl (fun h3 => ?_) (fun h3 => ?_)
        · try simp only [decide_eq_true_eq, decide_eq_false_iff_not, Bool.not_eq_true', Bool.not_eq_false', beq_iff_eq, bne_iff_ne, beq_eq_false_iff_ne, bne_eq_false_iff_eq, Int.not_lt, Int.not_le, gt_iff_lt, ge_iff_le, ne_eq] at h3
          have hall := all_in hq hn (n := w) (by omega)
          refine X_skip ?_
          refine thenX_normal ?_
          refine X_seq ?_
          refine X_block ?_
          refine X_seq ?_
          refine X_region ?_
          refine XL_det .no (D_pure rfl) rfl ?_
          refine XL_det .no (D_pure rfl) rfl ?_
          refine XL_callk .no en_73 rfl (rall l hl hq hn w (by omega)) (by with_reducible repeat first | exact .nil _ | exact .here _ _ | exact Take.self _ | apply Take.cons | apply Out.there | apply Take.skip | exact Take.pre _ _ | apply Out.app) rfl ?_
          refine XL_det .no (D_pure rfl) rfl ?_
          refine XL_det .no (D_pure (v := .int .i64 (allV l.l w)) rfl) rfl ?_
          refine XL_det .no (D_pure (v := .bool true) rfl) rfl ?_
          refine XL_det .no (D_pure rfl) rfl ?_
          refine XL_det .no (D_pure rfl) rfl ?_
          refine XL_then ?_
          refine X_seq ?_
          refine X_seq ?_
          refine X_region ?_
          refine XL_det .no (D_pure rfl) rfl ?_
          refine XL_det .no (D_pure rfl) rfl ?_
          refine XL_then ?_
          refine X_cond_f rfl rfl ?_
          refine X_skip ?_
          refine thenX_normal ?_
          refine X_seq ?_
          refine X_region ?_
          refine XL_det .no (D_pure rfl) rfl ?_
          refine XL_det .no (D_pure rfl) rfl ?_
          refine XL_callv .no en_95 rfl (radd (o : Int) (allV l.l w) (by omega)) rfl ?_
          refine XL_det .no (D_pure rfl) rfl ?_
          refine XL_det .no (D_pure (v := .int .i64 ((o : Int) + allV l.l w)) rfl) rfl ?_
          refine XL_det .no (D_pure (v := .bool true) rfl) rfl ?_
          refine XL_det .no (D_pure rfl) rfl ?_
          refine XL_det .no (D_pure rfl) rfl ?_
          refine XL_then ?_
          refine X_seq ?_
          refine X_seq ?_
          refine X_region ?_
          refine XL_det .no (D_pure rfl) rfl ?_
          refine XL_det .no (D_pure rfl) rfl ?_
          refine XL_then ?_
          refine X_cond_f rfl rfl ?_
          refine X_skip ?_
          refine thenX_normal ?_
          refine X_seq ?_
          refine X_region ?_
          refine XL_det .no (D_pure rfl) rfl ?_
          refine XL_det .no (D_pure rfl) rfl ?_
          refine XL_det .no (D_pure rfl) rfl ?_
          refine XL_then ?_
          refine X_cond rfl (fun h4 => ?_) (fun h4 => ?_)
          · try simp only [decide_eq_true_eq, decide_eq_false_iff_not, Bool.not_eq_true', Bool.not_eq_false', beq_iff_eq, bne_iff_ne, beq_eq_false_iff_ne, bne_eq_false_iff_eq, Int.not_lt, Int.not_le, gt_iff_lt, ge_iff_le, ne_eq] at h4
            refine X_seq ?_
            refine X_region ?_
            refine XL_det .no (D_pure rfl) rfl ?_
            refine XL_det .no (D_pure rfl) rfl ?_
            refine XL_det .no (D_pure rfl) rfl ?_
            refine XL_then ?_
            refine X_ret ?_
            refine inBlk_ret ?_
            refine thenX_ret ?_
            refine loopQ_ret ?_
            refine inBlk_ret ?_
            refine thenX_ret ?_
            refine ret_ok (.nil _) (res_tmp2 rfl rfl rfl) ?_
            exact ⟨[K], ⟨_, true, rfl, (fun _ => ⟨w, rfl, hw, h3, h4⟩), rfl⟩, _, (by repeat first | (with_reducible first | exact .nil _ | exact .here _ _) | exact .here _ _ | (with_reducible first | exact Take.self _ | apply Take.cons | apply Out.there | apply Take.skip | exact Take.pre _ _ | apply Out.app))⟩
          · try simp only [decide_eq_true_eq, decide_eq_false_iff_not, Bool.not_eq_true', Bool.not_eq_false', beq_iff_eq, bne_iff_ne, beq_eq_false_iff_ne, bne_eq_false_iff_eq, Int.not_lt, Int.not_le, gt_iff_lt, ge_iff_le, ne_eq] at h4
            refine X_skip ?_
            refine inBlk_normal ?_
            refine thenX_normal ?_
            refine X_region ?_
            refine XL_det .no (D_pure rfl) rfl ?_
            refine XL_det .no (D_add rfl rfl (by omega) (by omega)) rfl ?_
            refine XL_det .no (D_pure rfl) rfl ?_
            refine XL_nil ?_
            refine loopQ_next (w + 1) ?_ ?_ ?_ ?_
            · omega
            · omega
            · refine ⟨?_, ?_, ?_, ?_, trivial⟩ <;> rfl
            · exact ⟨_, (by with_reducible repeat first | exact .nil _ | exact .here _ _ | exact Take.self _ | apply Take.cons | apply Out.there | apply Take.skip | exact Take.pre _ _ | apply Out.app)⟩
        · try simp only [decide_eq_true_eq, decide_eq_false_iff_not, Bool.not_eq_true', Bool.not_eq_false', beq_iff_eq, bne_iff_ne, beq_eq_false_iff_ne, bne_eq_false_iff_eq, Int.not_lt, Int.not_le, gt_iff_lt, ge_iff_le, ne_eq] at h3
          refine X_exit ?_
          refine thenX_exit ?_
          refine loopQ_exit ?_
          refine inBlk_here ?_
          refine thenX_normal ?_
          refine X_seq ?_
          refine X_region ?_
          refine XL_det .no (D_pure rfl) rfl ?_
          refine XL_det .no (D_pure rfl) rfl ?_
          refine XL_then ?_
          refine X_ret ?_
          refine ret_ok (.nil _) (res_tmp2 rfl rfl rfl) ?_
          exact ⟨[K], ⟨_, false, rfl, (fun q => by cases q), rfl⟩, _, (by repeat first | (with_reducible first | exact .nil _ | exact .here _ _) | exact .here _ _ | (with_reducible first | exact Take.self _ | apply Take.cons | apply Out.there | apply Take.skip | exact Take.pre _ _ | apply Out.app))⟩

theorem rleastI (own most : Int) (ho : 1 ≤ own ∧ own ≤ 100000) (hm : most ≤ 4096) (l : Arr (Nat → Int)) (hl : Rd K l.ad (l.l.flatMap encW4)) (hq : ∀ q ∈ l.l, W4Ok q) (hn : l.l.length ≤ 16) : Ctr Tryd.prog B 70 [.int .i64 own, .int .i64 most, .slice l.oad l.l.length l.c] [K] (fun v S => ∃ n ok, v = .tuple #[.int .i64 n, .bool ok] ∧ (ok = true → ∃ r : Nat, n = r ∧ 1 ≤ r ∧ (r : Int) ≤ most ∧ own + allV l.l r ≤ r) ∧ S = [K]) := by
  obtain ⟨o, rfl⟩ := Int.eq_ofNat_of_zero_le (show 0 ≤ own by omega)
  exact rlst o most (by omega) hm l hl hq hn

theorem rresp (x : Img) (hx : x.In K) (hR : RightP x) (s : BitVec 32) (k : Nat) (e : Nat → Int) (he : x.tasks.l[k]? = some e) : Ctr Tryd.prog B 36 [x.v, .int .u32 s.toNat, .int .u32 s.toNat, .int .u32 s.toNat, .int .i64 (k : Int)] [K] (fun v S => ∃ n ok, v = .tuple #[.int .i64 n, .bool ok] ∧ (ok = true → ∃ r : Nat, n = r ∧ RespP x.tasks.l s k r) ∧ S = [K]) := by
  refine Ctr_of_X (N := 35) Tryd.func36 rfl (by simp) rfl ?_
  intro w0 D0
  have hT := tsok_of hR
  have hkl := (List.getElem?_eq_some_iff.1 he).1
  have hC := hT.c he
  have hn16 := hT.n
  have hbk := blkN_in (h := s) (c := s) (w := k) hT.small 8 (Nat.le_refl _)
  have hbk : 0 ≤ blkV x.tasks.l s s k ∧ blkV x.tasks.l s s k ≤ 4096 * 8 := hbk
  refine X_seq ?_
  refine X_region ?_
  refine XL_box (cs := [.int .i64 x.res, .slice x.tasks.oad x.tasks.l.length x.tasks.c, .slice x.modes.oad x.modes.l.length x.modes.c, .slice x.edges.oad x.edges.l.length x.edges.c]) .no rfl rfl rfl (fun b1 => ?_)
  refine XL_det .no (D_pure rfl) rfl ?_
  refine XL_det .no (D_pure rfl) rfl ?_
  refine XL_then ?_
  refine X_seq ?_
  refine X_region ?_
  refine XL_det .no (D_fld rfl fld_26_1 (o' := 1) rfl) rfl ?_
  refine XL_det .no (D_ldo rfl (by with_reducible repeat first | exact .here _ _ | apply Out.there | apply Out.app) tk_22 (by rfl)) rfl ?_
  refine XL_det .no (D_pure rfl) rfl ?_
  refine XL_det .no (D_idxSo rfl rfl slc_22 (x.tasks).nil0 rfl hkl rfl) rfl ?_
  refine XL_det .no (D_els (enc := encT) (sz := 11) (i := k) (fun _ => rfl) rfl (by with_reducible repeat first | exact .here _ _ | apply Out.there | apply Out.app) hx.tasks tk_48 he) rfl ?_
  refine XL_alloc .no zero_48 rfl (fun b2 => ?_)
  refine XL_efd .no (F_stw rfl rfl rfl (by with_reducible repeat first | exact .here _ _ | apply Out.there | apply Out.app) tk_48 rfl rfl) ?_
  refine XL_then ?_
  refine X_seq ?_
  refine X_draw [blk b1 [.int .i64 x.res, .slice x.tasks.oad x.tasks.l.length x.tasks.c, .slice x.modes.oad x.modes.l.length x.modes.c, .slice x.edges.oad x.edges.l.length x.edges.c] 26, blk b2 (encT e) 48, K] mixed (by with_reducible repeat first | exact .nil _ | exact .here _ _ | exact Take.self _ | apply Take.cons | apply Out.there | apply Take.skip | exact Take.pre _ _ | apply Out.app) ?_
  refine XA_detp 0 rfl (by kernel_rfl) (by kernel_rfl) (by kernel_rfl) (fun _ _ _ _ h => h) .no (D_fldP rfl fld_48_2 (o' := 2) rfl) rfl ?_
  refine XA_det 1 rfl (by kernel_rfl) (by kernel_rfl) (by kernel_rfl) (by kernel_rfl) (fun _ _ _ _ h => h) .no (D_ldo (v := .int .i64 (e 2)) rfl (by with_reducible repeat first | exact .here _ _ | apply Out.there | apply Out.app) tk_3 (by rfl)) rfl ?_
  refine XA_det 2 rfl (by kernel_rfl) (by kernel_rfl) (by kernel_rfl) (by kernel_rfl) (fun _ _ _ _ h => h) .no (D_ldso (vs := [.int .i64 x.res, .slice x.tasks.oad x.tasks.l.length x.tasks.c, .slice x.modes.oad x.modes.l.length x.modes.c, .slice x.edges.oad x.edges.l.length x.edges.c]) rfl (by with_reducible repeat first | exact .here _ _ | apply Out.there | apply Out.app) tk_26 rfl (by rfl)) rfl ?_
  refine XA_detp 3 rfl (by kernel_rfl) (by kernel_rfl) (by kernel_rfl) (fun _ _ _ _ h => h) .no (D_pureP rfl) rfl ?_
  refine XA_detp 4 rfl (by kernel_rfl) (by kernel_rfl) (by kernel_rfl) (fun _ _ _ _ h => h) .no (D_pureP rfl) rfl ?_
  refine XA_detp 5 rfl (by kernel_rfl) (by kernel_rfl) (by kernel_rfl) (fun _ _ _ _ h => h) .no (D_pureP rfl) rfl ?_
  refine XA_detp 8 rfl (by kernel_rfl) (by kernel_rfl) (by kernel_rfl) (fun _ _ _ _ h => h) .no (D_fldP rfl fld_48_1 (o' := 1) rfl) rfl ?_
  refine XA_det 9 rfl (by kernel_rfl) (by kernel_rfl) (by kernel_rfl) (by kernel_rfl) (fun _ _ _ _ h => h) .no (D_ldo (v := .int .i64 (e 1)) rfl (by with_reducible repeat first | exact .here _ _ | apply Out.there | apply Out.app) tk_3 (by rfl)) rfl ?_
  refine XA_det 10 rfl (by kernel_rfl) (by kernel_rfl) (by kernel_rfl) (by kernel_rfl) (fun _ _ _ _ h => h) .no (D_ldso (vs := [.int .i64 x.res, .slice x.tasks.oad x.tasks.l.length x.tasks.c, .slice x.modes.oad x.modes.l.length x.modes.c, .slice x.edges.oad x.edges.l.length x.edges.c]) rfl (by with_reducible repeat first | exact .here _ _ | apply Out.there | apply Out.app) tk_26 rfl (by rfl)) rfl ?_
  refine XA_detp 11 rfl (by kernel_rfl) (by kernel_rfl) (by kernel_rfl) (fun _ _ _ _ h => h) .no (D_pureP rfl) rfl ?_
  refine XA_detp 12 rfl (by kernel_rfl) (by kernel_rfl) (by kernel_rfl) (fun _ _ _ _ h => h) .no (D_pureP rfl) rfl ?_
  refine XA_one 6 (by kernel_rfl) ?_
  refine XO_callk rfl .no en_22 rfl (by with_reducible repeat first | exact .nil _ | apply App.cons) (rblock x hx hR s s k (by omega)) (by with_reducible repeat first | exact .nil _ | exact .here _ _ | exact Take.self _ | apply Take.cons | apply Out.there | apply Take.skip | exact Take.pre _ _ | apply Out.app) rfl ?_
  refine XA_det 7 rfl (by kernel_rfl) (by kernel_rfl) (by kernel_rfl) (by kernel_rfl) (fun _ _ _ _ h => h) .no (D_add rfl rfl (by omega) (by omega)) rfl ?_
  refine XA_one 13 (by kernel_rfl) ?_
  refine XO_callc rfl .no en_71 rfl (by with_reducible repeat first | exact .nil _ | apply App.cons) (rahd x hx hT s k (by omega)) (by with_reducible repeat first | exact .nil _ | exact .here _ _ | exact Take.self _ | apply Take.cons | apply Out.there | apply Take.skip | exact Take.pre _ _ | apply Out.app) rfl ?_
  rintro _ _ ⟨a, ⟨ha, hao⟩, rfl, rfl⟩
  simp only [List.cons_append, List.nil_append]
  refine ⟨[row (.slice a.oad a.l.length a.c) 141 4 a.l.length (a.l.flatMap encW4)], _, _, (by with_reducible repeat first | exact .nil _ | apply App.cons), (by with_reducible repeat first | exact .nil _ | exact .here _ _ | exact Take.self _ | apply Take.cons | apply Out.there | apply Take.skip | exact Take.pre _ _ | apply Out.app), ?_⟩
  refine XA_one 14 (by kernel_rfl) ?_
  refine XO_callc rfl .no en_70 rfl (by with_reducible repeat first | exact .nil _ | apply App.cons) (rleastI (e 2 + (blkV x.tasks.l s s k)) (e 1) (by omega) (by omega) a (Rd_own hao rfl) (fun q hq => by rw [ha] at hq; exact (ahead_ok hT s k (by omega) q hq).1) (by rw [ha]; have := ahead_len x.tasks.l s k; omega)) (by with_reducible repeat first | exact .nil _ | exact .here _ _ | exact Take.self _ | apply Take.cons | apply Out.there | apply Take.skip | exact Take.pre _ _ | apply Out.app) rfl ?_
  rintro _ _ ⟨rn, rok, rfl, hres, rfl⟩
  simp only [List.cons_append, List.nil_append]
  refine ⟨[], _, _, (by with_reducible repeat first | exact .nil _ | apply App.cons), (by with_reducible repeat first | exact .nil _ | exact .here _ _ | exact Take.self _ | apply Take.cons | apply Out.there | apply Take.skip | exact Take.pre _ _ | apply Out.app), ?_⟩
  refine XA_detp 15 rfl (by kernel_rfl) (by kernel_rfl) (by kernel_rfl) (fun _ _ _ _ h => h) .no (D_pureP (v := .int .i64 rn) rfl) rfl ?_
  refine XA_detp 16 rfl (by kernel_rfl) (by kernel_rfl) (by kernel_rfl) (fun _ _ _ _ h => h) .no (D_pureP (v := .bool rok) rfl) rfl ?_
  refine XA_detp 17 rfl (by kernel_rfl) (by kernel_rfl) (by kernel_rfl) (fun _ _ _ _ h => h) .no (D_pureP rfl) rfl ?_
  refine XA_detp 18 rfl (by kernel_rfl) (by kernel_rfl) (by kernel_rfl) (fun _ _ _ _ h => h) .no (D_pureP rfl) rfl ?_
  refine XA_done (by kernel_rfl) ?_
  try simp only [List.cons_append, List.nil_append, List.append_nil]
  refine thenX_normal ?_
  refine X_ret ?_
  refine ret_ok (.nil _) (res_tmp2 rfl rfl rfl) ?_
  refine ⟨[K], ⟨rn, rok, rfl, fun q => ?_, rfl⟩, _, (by repeat first | (with_reducible first | exact .nil _ | exact .here _ _) | exact .here _ _ | (with_reducible first | exact Take.self _ | apply Take.cons | apply Out.there | apply Take.skip | exact Take.pre _ _ | apply Out.app))⟩
  obtain ⟨r, g1, g2, g3, g4⟩ := hres q
  exact ⟨r, g1, resp_of he g2 g3 (by rw [ha] at g4; exact g4)⟩

theorem rmode (x : Img) (hx : x.In K) (hR : RightP x) (s : BitVec 32) : Ctr Tryd.prog B 34 [x.v, .int .u32 s.toNat] [K] (fun v S => ∃ m, v = .int .i64 m ∧ (m < 0 → ∀ i, inS x.tasks.l s i → ∃ r, RespP x.tasks.l s i r) ∧ S = [K]) := by
  refine Ctr_of_X (N := 30) Tryd.func34 rfl (by simp) rfl ?_
  intro w0 D0
  refine X_seq ?_
  refine X_region ?_
  refine XL_box (cs := [.int .i64 x.res, .slice x.tasks.oad x.tasks.l.length x.tasks.c, .slice x.modes.oad x.modes.l.length x.modes.c, .slice x.edges.oad x.edges.l.length x.edges.c]) .no rfl rfl rfl (fun b1 => ?_)
  refine XL_det .no (D_pure rfl) rfl ?_
  refine XL_then ?_
  refine X_seq ?_
  refine X_seq ?_
  refine X_region ?_
  refine XL_det .no (D_pure rfl) rfl ?_
  refine XL_then ?_
  refine X_block ?_
  refine X_loop (α := Nat) (fun i => i ≤ x.tasks.l.length ∧ ∀ j, j < i → inS x.tasks.l s j → ∃ r, RespP x.tasks.l s j r) (fun i => [(5, .int .i64 (i : Int)), (1, .int .u32 s.toNat), (2, .pointer (some ⟨b1, 0, none⟩))]) (fun i => [blk b1 [.int .i64 x.res, .slice x.tasks.oad x.tasks.l.length x.tasks.c, .slice x.modes.oad x.modes.l.length x.modes.c, .slice x.edges.oad x.edges.l.length x.edges.c] 26, K]) (fun i => x.tasks.l.length - i) 0 ?_ (by refine ⟨?_, ?_, ?_, trivial⟩ <;> rfl) (by with_reducible repeat first | exact .nil _ | exact .here _ _ | exact Take.self _ | apply Take.cons | apply Out.there | apply Take.skip | exact Take.pre _ _ | apply Out.app) ?_
  · exact ⟨Nat.zero_le _, fun j hj => absurd hj (by omega)⟩
  · rintro i ⟨hi, hall⟩
    have hsm := x.tasks.small
    refine X_seq ?_
    refine X_seq ?_
    refine X_region ?_
    refine XL_det .no (D_pure rfl) rfl ?_
    refine XL_det .no (D_fld rfl fld_26_1 (o' := 1) rfl) rfl ?_
    refine XL_det .no (D_ldo rfl (by with_reducible repeat first | exact .here _ _ | apply Out.there | apply Out.app) tk_22 (by rfl)) rfl ?_
    refine XL_det .no (D_len rfl rfl slc_22) rfl ?_
    refine XL_det .no (D_pure rfl) rfl ?_
    refine XL_then ?_
    refine X_cond rfl (fun h1 => ?_) (fun h1 => ?_)
    · try simp only [decide_eq_true_eq, decide_eq_false_iff_not, Bool.not_eq_true', Bool.not_eq_false', beq_iff_eq, bne_iff_ne, beq_eq_false_iff_ne, bne_eq_false_iff_eq, Int.not_lt, Int.not_le, gt_iff_lt, ge_iff_le, ne_eq] at h1
      obtain ⟨e, he⟩ : ∃ e, x.tasks.l[i]? = some e := ⟨_, List.getElem?_eq_getElem (by omega)⟩
      refine X_skip ?_
      refine thenX_normal ?_
      refine X_seq ?_
      refine X_block ?_
      refine X_seq ?_
      refine X_region ?_
      refine XL_det .no (D_pure rfl) rfl ?_
      refine XL_det .no (D_pure rfl) rfl ?_
      refine XL_callv .no en_37 rfl (has s (i : Int)) rfl ?_
      refine XL_then ?_
      refine X_cond rfl (fun h2 => ?_) (fun h2 => ?_)
      · try simp only [decide_eq_true_eq, decide_eq_false_iff_not, Bool.not_eq_true', Bool.not_eq_false', beq_iff_eq, bne_iff_ne, beq_eq_false_iff_ne, bne_eq_false_iff_eq, Int.not_lt, Int.not_le, gt_iff_lt, ge_iff_le, ne_eq] at h2
        refine X_seq ?_
        refine X_region ?_
        refine XL_det .no (D_ldso (vs := [.int .i64 x.res, .slice x.tasks.oad x.tasks.l.length x.tasks.c, .slice x.modes.oad x.modes.l.length x.modes.c, .slice x.edges.oad x.edges.l.length x.edges.c]) rfl (by with_reducible repeat first | exact .here _ _ | apply Out.there | apply Out.app) tk_26 rfl (by rfl)) rfl ?_
        refine XL_det .no (D_pure rfl) rfl ?_
        refine XL_det .no (D_pure rfl) rfl ?_
        refine XL_det .no (D_pure rfl) rfl ?_
        refine XL_det .no (D_pure rfl) rfl ?_
        refine XL_call .no en_36 rfl (rresp x hx hR s i e he) (by with_reducible repeat first | exact .nil _ | exact .here _ _ | exact Take.self _ | apply Take.cons | apply Out.there | apply Take.skip | exact Take.pre _ _ | apply Out.app) rfl ?_
        rintro _ _ ⟨rn, rok, rfl, hres, rfl⟩
        simp only [List.cons_append, List.nil_append]
        refine XL_det .no (D_pure rfl) rfl ?_
        refine XL_det .no (D_pure (v := .int .i64 rn) rfl) rfl ?_
        refine XL_det .no (D_pure (v := .bool rok) rfl) rfl ?_
        refine XL_det .no (D_pure rfl) rfl ?_
        refine XL_det .no (D_pure rfl) rfl ?_
        refine XL_then ?_
        refine X_seq ?_
        refine X_region ?_
        refine XL_det .no (D_pure rfl) rfl ?_
        refine XL_det .no (D_pure rfl) rfl ?_
        refine XL_then ?_
        refine X_cond rfl (fun h3 => ?_) (fun h3 => ?_)
        · try simp only [decide_eq_true_eq, decide_eq_false_iff_not, Bool.not_eq_true', Bool.not_eq_false', beq_iff_eq, bne_iff_ne, beq_eq_false_iff_ne, bne_eq_false_iff_eq, Int.not_lt, Int.not_le, gt_iff_lt, ge_iff_le, ne_eq] at h3
          refine X_seq ?_
          refine X_region ?_
          refine XL_det .no (D_pure rfl) rfl ?_
          refine XL_det .no (D_pure rfl) rfl ?_
          refine XL_then ?_
          refine X_ret ?_
          refine inBlk_ret ?_
          refine thenX_ret ?_
          refine loopQ_ret ?_
          refine inBlk_ret ?_
          refine thenX_ret ?_
          refine ret_ok (.nil _) (res_tmp rfl rfl) ?_
          exact ⟨[K], ⟨_, rfl, (fun q => absurd q (by omega)), rfl⟩, _, (by repeat first | (with_reducible first | exact .nil _ | exact .here _ _) | exact .here _ _ | (with_reducible first | exact Take.self _ | apply Take.cons | apply Out.there | apply Take.skip | exact Take.pre _ _ | apply Out.app))⟩
        · try simp only [decide_eq_true_eq, decide_eq_false_iff_not, Bool.not_eq_true', Bool.not_eq_false', beq_iff_eq, bne_iff_ne, beq_eq_false_iff_ne, bne_eq_false_iff_eq, Int.not_lt, Int.not_le, gt_iff_lt, ge_iff_le, ne_eq] at h3
          refine X_skip ?_
          refine inBlk_normal ?_
          refine thenX_normal ?_
          refine X_region ?_
          refine XL_det .no (D_pure rfl) rfl ?_
          refine XL_det .no (D_add rfl rfl (by omega) (by omega)) rfl ?_
          refine XL_det .no (D_pure rfl) rfl ?_
          refine XL_nil ?_
          refine loopQ_next (i + 1) ?_ ?_ ?_ ?_
          · exact ⟨by omega, fun j hj hs => by rcases Nat.lt_succ_iff_lt_or_eq.1 hj with h | rfl; exact hall j h hs; obtain ⟨r, _, g⟩ := hres h3; exact ⟨r, g⟩⟩
          · omega
          · refine ⟨?_, ?_, ?_, trivial⟩ <;> rfl
          · exact ⟨_, (by with_reducible repeat first | exact .nil _ | exact .here _ _ | exact Take.self _ | apply Take.cons | apply Out.there | apply Take.skip | exact Take.pre _ _ | apply Out.app)⟩
      · try simp only [decide_eq_true_eq, decide_eq_false_iff_not, Bool.not_eq_true', Bool.not_eq_false', beq_iff_eq, bne_iff_ne, beq_eq_false_iff_ne, bne_eq_false_iff_eq, Int.not_lt, Int.not_le, gt_iff_lt, ge_iff_le, ne_eq] at h2
        refine X_skip ?_
        refine inBlk_normal ?_
        refine thenX_normal ?_
        refine X_region ?_
        refine XL_det .no (D_pure rfl) rfl ?_
        refine XL_det .no (D_add rfl rfl (by omega) (by omega)) rfl ?_
        refine XL_det .no (D_pure rfl) rfl ?_
        refine XL_nil ?_
        refine loopQ_next (i + 1) ?_ ?_ ?_ ?_
        · exact ⟨by omega, fun j hj hs => by rcases Nat.lt_succ_iff_lt_or_eq.1 hj with h | rfl; exact hall j h hs; exact absurd hs.1 (by rw [h2]; decide)⟩
        · omega
        · refine ⟨?_, ?_, ?_, trivial⟩ <;> rfl
        · exact ⟨_, (by with_reducible repeat first | exact .nil _ | exact .here _ _ | exact Take.self _ | apply Take.cons | apply Out.there | apply Take.skip | exact Take.pre _ _ | apply Out.app)⟩
    · try simp only [decide_eq_true_eq, decide_eq_false_iff_not, Bool.not_eq_true', Bool.not_eq_false', beq_iff_eq, bne_iff_ne, beq_eq_false_iff_ne, bne_eq_false_iff_eq, Int.not_lt, Int.not_le, gt_iff_lt, ge_iff_le, ne_eq] at h1
      refine X_exit ?_
      refine thenX_exit ?_
      refine loopQ_exit ?_
      refine inBlk_here ?_
      refine thenX_normal ?_
      refine X_seq ?_
      refine X_region ?_
      refine XL_det .no (D_pure rfl) rfl ?_
      refine XL_then ?_
      refine X_ret ?_
      refine ret_ok (.nil _) (res_tmp rfl rfl) ?_
      exact ⟨[K], ⟨_, rfl, fun _ i hi2 => hall i (by have := hi2.2; omega) hi2, rfl⟩, _, (by repeat first | (with_reducible first | exact .nil _ | exact .here _ _) | exact .here _ _ | (with_reducible first | exact Take.self _ | apply Take.cons | apply Out.there | apply Take.skip | exact Take.pre _ _ | apply Out.app))⟩

theorem rbusy (x : Img) (hx : x.In K) (hR : RightP x) (s : BitVec 32) : Ctr Tryd.prog B 44 [x.v, .int .u32 s.toNat] [K] (fun v S => ∃ n ok, v = .tuple #[.int .i64 n, .bool ok] ∧ (ok = true → ∃ r : Nat, n = r ∧ r ≤ 65536 ∧ sumI (fun j => if inS x.tasks.l s j then tk x.tasks.l j 2 * ((cd r (tk x.tasks.l j 0).toNat : Int) + 1) else 0) 16 ≤ r) ∧ S = [K]) := by
  refine Ctr_of_X (N := 45) Tryd.func44 rfl (by simp) rfl ?_
  intro w0 D0
  have hT := tsok_of hR
  have hn16 := hT.n
  have hah := ahead_len x.tasks.l s x.tasks.l.length
  refine X_seq ?_
  refine X_region ?_
  refine XL_box (cs := [.int .i64 x.res, .slice x.tasks.oad x.tasks.l.length x.tasks.c, .slice x.modes.oad x.modes.l.length x.modes.c, .slice x.edges.oad x.edges.l.length x.edges.c]) .no rfl rfl rfl (fun b1 => ?_)
  refine XL_det .no (D_pure rfl) rfl ?_
  refine XL_det .no (D_pure rfl) rfl ?_
  refine XL_then ?_
  refine X_seq ?_
  refine X_region ?_
  refine XL_det .no (D_ldso (vs := [.int .i64 x.res, .slice x.tasks.oad x.tasks.l.length x.tasks.c, .slice x.modes.oad x.modes.l.length x.modes.c, .slice x.edges.oad x.edges.l.length x.edges.c]) rfl (by with_reducible repeat first | exact .here _ _ | apply Out.there | apply Out.app) tk_26 rfl (by rfl)) rfl ?_
  refine XL_det .no (D_pure rfl) rfl ?_
  refine XL_det .no (D_fld rfl fld_26_1 (o' := 1) rfl) rfl ?_
  refine XL_det .no (D_ldo rfl (by with_reducible repeat first | exact .here _ _ | apply Out.there | apply Out.app) tk_22 (by rfl)) rfl ?_
  refine XL_det .no (D_len rfl rfl slc_22) rfl ?_
  refine XL_call .no en_71 rfl (rahd x hx hT s x.tasks.l.length (Nat.le_refl _)) (by with_reducible repeat first | exact .nil _ | exact .here _ _ | exact Take.self _ | apply Take.cons | apply Out.there | apply Take.skip | exact Take.pre _ _ | apply Out.app) rfl ?_
  rintro _ _ ⟨a, ⟨ha, hao⟩, rfl, rfl⟩
  simp only [List.cons_append, List.nil_append]
  refine XL_det .no (D_pure rfl) rfl ?_
  refine XL_then ?_
  refine X_seq ?_
  refine X_seq ?_
  refine X_region ?_
  refine XL_det .no (D_pure rfl) rfl ?_
  refine XL_then ?_
  refine X_block ?_
  rw [show a.l.flatMap encW4 = (cyL a.l 0).flatMap encW4 from by rw [cyL_0]]
  refine X_loop (α := Nat) (fun i => i ≤ a.l.length) (fun i => [(7, .int .i64 (i : Int)), (6, .slice a.oad a.l.length a.c)]) (fun i => [row (.slice a.oad a.l.length a.c) 141 4 a.l.length ((cyL a.l i).flatMap encW4), K]) (fun i => a.l.length - i) 0 ?_ (by refine ⟨?_, ?_, trivial⟩ <;> rfl) (by repeat first | (with_reducible first | exact .nil _ | exact .here _ _) | exact .here _ _ | (with_reducible first | exact Take.self _ | apply Take.cons | apply Out.there | apply Take.skip | exact Take.pre _ _ | apply Out.app)) ?_
  · exact Nat.zero_le _
  · rintro i hi
    have hal : a.l.length ≤ 16 := by rw [ha]; omega
    refine X_seq ?_
    refine X_seq ?_
    refine X_region ?_
    refine XL_det .no (D_pure rfl) rfl ?_
    refine XL_det .no (D_pure rfl) rfl ?_
    refine XL_det .no (D_len rfl rfl slc_136) rfl ?_
    refine XL_det .no (D_pure rfl) rfl ?_
    refine XL_then ?_
    refine X_cond rfl (fun h1 => ?_) (fun h1 => ?_)
    · try simp only [decide_eq_true_eq, decide_eq_false_iff_not, Bool.not_eq_true', Bool.not_eq_false', beq_iff_eq, bne_iff_ne, beq_eq_false_iff_ne, bne_eq_false_iff_eq, Int.not_lt, Int.not_le, gt_iff_lt, ge_iff_le, ne_eq] at h1
      obtain ⟨q, hg0⟩ : ∃ q, a.l[i]? = some q := ⟨_, List.getElem?_eq_getElem (by omega)⟩
      have hg := cyL_get hg0
      refine X_skip ?_
      refine thenX_normal ?_
      refine X_seq ?_
      refine X_block ?_
      refine X_region ?_
      refine XL_det .no (D_pure rfl) rfl ?_
      refine XL_det .no (D_pure rfl) rfl ?_
      refine XL_det .no (D_pure rfl) rfl ?_
      refine XL_det .no (D_pure rfl) rfl ?_
      refine XL_det .no (D_idxSo rfl rfl slc_136 (a).nil0 rfl (by omega) rfl) rfl ?_
      refine XL_det .no (D_fldA rfl fld_141_1 rfl) rfl ?_
      refine XL_det .no (D_ela (enc := encW4) (sz := 4) (i := i) (k := 1) (fun _ => rfl) rfl (by with_reducible repeat first | exact .here _ _ | apply Out.there | apply Out.app) (Rd_rowx hao rfl (cyL_len _ hi)) tk_3 hg rfl) rfl ?_
      refine XL_det .no (D_idxSo rfl rfl slc_136 (a).nil0 rfl (by omega) rfl) rfl ?_
      refine XL_det .no (D_fldA rfl fld_141_3 rfl) rfl ?_
      refine XL_efd .no (F_rsp (enc := encW4) (i := i) (k := 3) (y := cyW q) (xs' := (cyL a.l (i + 1))) hao rfl rfl (fun _ => rfl) (by decide) hg rfl rfl (by with_reducible repeat first | exact .here _ _ | apply Out.there | apply Out.app) tk_3 (cyL_set hg0)) ?_
      refine XL_nil ?_
      refine inBlk_normal ?_
      refine thenX_normal ?_
      refine X_region ?_
      refine XL_det .no (D_pure rfl) rfl ?_
      refine XL_det .no (D_add rfl rfl (by omega) (by omega)) rfl ?_
      refine XL_det .no (D_pure rfl) rfl ?_
      refine XL_nil ?_
      refine loopQ_next (i + 1) ?_ ?_ ?_ ?_
      · omega
      · omega
      · refine ⟨?_, ?_, trivial⟩ <;> rfl
      · exact ⟨_, (by repeat first | (with_reducible first | exact .nil _ | exact .here _ _) | exact .here _ _ | (with_reducible first | exact Take.self _ | apply Take.cons | apply Out.there | apply Take.skip | exact Take.pre _ _ | apply Out.app))⟩
    · try simp only [decide_eq_true_eq, decide_eq_false_iff_not, Bool.not_eq_true', Bool.not_eq_false', beq_iff_eq, bne_iff_ne, beq_eq_false_iff_ne, bne_eq_false_iff_eq, Int.not_lt, Int.not_le, gt_iff_lt, ge_iff_le, ne_eq] at h1
      refine X_exit ?_
      refine thenX_exit ?_
      refine loopQ_exit ?_
      refine inBlk_here ?_
      refine thenX_normal ?_
      refine X_seq ?_
      refine X_region ?_
      refine XL_det .no (D_pure rfl) rfl ?_
      refine XL_then ?_
      refine X_seq ?_
      refine X_block ?_
      obtain rfl : i = a.l.length := by omega
      obtain ⟨b, hbl, hbo, hb1, hb2⟩ : ∃ b : Arr (Nat → Int), b.l = a.l.map cyW ∧ b.Own ∧ b.oad = a.oad ∧ b.c = a.c := ⟨Arr.mapl a cyW, rfl, hao, rfl, rfl⟩
      have hbq : ∀ q ∈ b.l, W4Ok q := fun q hq => by rw [hbl, ha] at hq; obtain ⟨z, hz, rfl⟩ := List.mem_map.1 hq; exact cy_ok (ahead_ok hT s _ (Nat.le_refl _) z hz).1
      have hbn : b.l.length ≤ 16 := by rw [hbl, ha, List.length_map]; have := ahead_len x.tasks.l s x.tasks.l.length; omega
      rw [cyL_end, ← hbl, show a.l.length = b.l.length by rw [hbl, List.length_map], ← hb1, ← hb2]
      refine X_loop (α := Nat) (fun w => 1 ≤ w) (fun w => [(8, .int .i64 (w : Int)), (6, .slice b.oad b.l.length b.c)]) (fun w => [row (.slice b.oad b.l.length b.c) 141 4 b.l.length (b.l.flatMap encW4), K]) (fun w => 65537 - w) 1 ?_ (by refine ⟨?_, ?_, trivial⟩ <;> rfl) (by repeat first | (with_reducible first | exact .nil _ | exact .here _ _) | exact .here _ _ | (with_reducible first | exact Take.self _ | apply Take.cons | apply Out.there | apply Take.skip | exact Take.pre _ _ | apply Out.app)) ?_
      · exact Nat.le_refl _
      · rintro w hw
        refine X_seq ?_
        refine X_seq ?_
        refine X_region ?_
        refine XL_det .no (D_pure rfl) rfl ?_
        refine XL_det .no (D_pure rfl) rfl ?_
        refine XL_then ?_
        refine X_cond rfl (fun h2 => ?_) (fun h2 => ?_)
        · try simp only [decide_eq_true_eq, decide_eq_false_iff_not, Bool.not_eq_true', Bool.not_eq_false', beq_iff_eq, bne_iff_ne, beq_eq_false_iff_ne, bne_eq_false_iff_eq, Int.not_lt, Int.not_le, gt_iff_lt, ge_iff_le, ne_eq] at h2
          have hall := all_in hbq hbn (n := w) (by omega)
          refine X_skip ?_
          refine thenX_normal ?_
          refine X_block ?_
          refine X_seq ?_
          refine X_region ?_
          refine XL_det .no (D_pure rfl) rfl ?_
          refine XL_det .no (D_pure rfl) rfl ?_
          refine XL_callk .no en_73 rfl (rall b (Rd_own hbo rfl) hbq hbn w (by omega)) (by with_reducible repeat first | exact .nil _ | exact .here _ _ | exact Take.self _ | apply Take.cons | apply Out.there | apply Take.skip | exact Take.pre _ _ | apply Out.app) rfl ?_
          refine XL_det .no (D_pure rfl) rfl ?_
          refine XL_det .no (D_pure (v := .int .i64 (allV b.l w)) rfl) rfl ?_
          refine XL_det .no (D_pure (v := .bool true) rfl) rfl ?_
          refine XL_det .no (D_pure rfl) rfl ?_
          refine XL_det .no (D_pure rfl) rfl ?_
          refine XL_then ?_
          refine X_seq ?_
          refine X_seq ?_
          refine X_region ?_
          refine XL_det .no (D_pure rfl) rfl ?_
          refine XL_det .no (D_pure rfl) rfl ?_
          refine XL_det .no (D_pure rfl) rfl ?_
          refine XL_then ?_
          refine X_cond rfl (fun h3 => ?_) (fun h3 => ?_)
          · try simp only [decide_eq_true_eq, decide_eq_false_iff_not, Bool.not_eq_true', Bool.not_eq_false', beq_iff_eq, bne_iff_ne, beq_eq_false_iff_ne, bne_eq_false_iff_eq, Int.not_lt, Int.not_le, gt_iff_lt, ge_iff_le, ne_eq] at h3
            refine X_seq ?_
            refine X_region ?_
            refine XL_det .no (D_pure rfl) rfl ?_
            refine XL_det .no (D_pure rfl) rfl ?_
            refine XL_det .no (D_pure rfl) rfl ?_
            refine XL_then ?_
            refine X_ret ?_
            refine thenX_ret ?_
            refine inBlk_ret ?_
            refine loopQ_ret ?_
            refine inBlk_ret ?_
            refine thenX_ret ?_
            refine ret_ok (.nil _) (res_tmp2 rfl rfl rfl) ?_
            refine ⟨[K], ⟨_, true, rfl, fun _ => ⟨w, rfl, by omega, ?_⟩, rfl⟩, _, (by repeat first | (with_reducible first | exact .nil _ | exact .here _ _) | exact .here _ _ | (with_reducible first | exact Take.self _ | apply Take.cons | apply Out.there | apply Take.skip | exact Take.pre _ _ | apply Out.app))⟩
            have h3 : allV b.l w ≤ w := h3
            rw [hbl, ha, all_busy (Nat.le_refl _)] at h3
            rw [show (16 : Nat) = x.tasks.l.length + (16 - x.tasks.l.length) by omega, sumI_more _ (fun j hj => by rw [if_neg (fun q => absurd q.2 (by omega))])]
            exact h3
          · try simp only [decide_eq_true_eq, decide_eq_false_iff_not, Bool.not_eq_true', Bool.not_eq_false', beq_iff_eq, bne_iff_ne, beq_eq_false_iff_ne, bne_eq_false_iff_eq, Int.not_lt, Int.not_le, gt_iff_lt, ge_iff_le, ne_eq] at h3
            refine X_skip ?_
            refine thenX_normal ?_
            refine X_region ?_
            refine XL_det .no (D_pure rfl) rfl ?_
            refine XL_det .no (D_pure rfl) rfl ?_
            refine XL_nil ?_
            refine inBlk_normal ?_
            refine loopQ_next (allV b.l w).toNat ?_ ?_ ?_ ?_
            · omega
            · omega
            · refine ⟨?_, ?_, trivial⟩ <;> first | rfl | (rw [Int.toNat_of_nonneg (by omega)]; rfl)
            · exact ⟨_, (by repeat first | (with_reducible first | exact .nil _ | exact .here _ _) | exact .here _ _ | (with_reducible first | exact Take.self _ | apply Take.cons | apply Out.there | apply Take.skip | exact Take.pre _ _ | apply Out.app))⟩
        · try simp only [decide_eq_true_eq, decide_eq_false_iff_not, Bool.not_eq_true', Bool.not_eq_false', beq_iff_eq, bne_iff_ne, beq_eq_false_iff_ne, bne_eq_false_iff_eq, Int.not_lt, Int.not_le, gt_iff_lt, ge_iff_le, ne_eq] at h2
          refine X_exit ?_
          refine thenX_exit ?_
          refine loopQ_exit ?_
          refine inBlk_here ?_
          refine thenX_normal ?_
          refine X_seq ?_
          refine X_region ?_
          refine XL_det .no (D_pure rfl) rfl ?_
          refine XL_det .no (D_pure rfl) rfl ?_
          refine XL_then ?_
          refine X_ret ?_
          refine ret_ok (.nil _) (res_tmp2 rfl rfl rfl) ?_
          exact ⟨[K], ⟨_, false, rfl, (fun q => by cases q), rfl⟩, _, (by repeat first | (with_reducible first | exact .nil _ | exact .here _ _) | exact .here _ _ | (with_reducible first | exact Take.self _ | apply Take.cons | apply Out.there | apply Take.skip | exact Take.pre _ _ | apply Out.app))⟩

end Go.Proofs.YtkkdchgnknpceaaDoor
end

section
namespace Go.Proofs.YtkkdchgnknpceaaDoor
open Go Go.Sl
set_option linter.unusedVariables false
set_option linter.unusedSimpArgs false
set_option maxRecDepth 4000
variable {B : Nat} {K : Asrt B}
theorem en_29 : Go.Proofs.Enters Tryd.prog 29 := Go.Proofs.enters_of Tryd.func29 (by kernel_rfl) rfl
theorem en_33 : Go.Proofs.Enters Tryd.prog 33 := Go.Proofs.enters_of Tryd.func33 (by kernel_rfl) rfl
theorem en_34 : Go.Proofs.Enters Tryd.prog 34 := Go.Proofs.enters_of Tryd.func34 (by kernel_rfl) rfl
theorem en_38 : Go.Proofs.Enters Tryd.prog 38 := Go.Proofs.enters_of Tryd.func38 (by kernel_rfl) rfl
theorem en_43 : Go.Proofs.Enters Tryd.prog 43 := Go.Proofs.enters_of Tryd.func43 (by kernel_rfl) rfl
theorem en_44 : Go.Proofs.Enters Tryd.prog 44 := Go.Proofs.enters_of Tryd.func44 (by kernel_rfl) rfl
theorem fld_83_0 : fldOff Tryd.prog 83 0 = some 0 := by kernel_rfl
theorem fld_83_1 : fldOff Tryd.prog 83 1 = some 17 := by kernel_rfl

abbrev encAsk (w : Way) (m : Int) : List Value := encWay w ++ [.int .i64 m]
theorem ask_m {w : Way} {m : Int} : (encAsk w m)[17]? = some (.int .i64 m) := app_get2 (n := 17) (k := 0) (by simp [rowF_len]) rfl
theorem ask_part {w : Way} {m : Int} : (encAsk w m)[16]? = some (.int .i64 w.part) := app_get1 way_part
section
variable {ts : List (Nat → Int)} {s s' : BitVec 32}
theorem hit_congr (h : ∀ j, j < ts.length → hasB s (j : Int) = hasB s' (j : Int)) (r : Nat) : hitB ts s r = hitB ts s' r := by
  funext i
  unfold hitB
  cases he : ts[i]? with
  | none => rfl
  | some e => dsimp only; rw [h i (List.getElem?_eq_some_iff.1 he).1]
theorem ceil_congr (h : ∀ j, j < ts.length → hasB s (j : Int) = hasB s' (j : Int)) (r : Nat) : ceilV ts s r = ceilV ts s' r := by unfold ceilV; rw [hit_congr h]
theorem long_congr (h : ∀ j, j < ts.length → hasB s (j : Int) = hasB s' (j : Int)) (w r : Nat) : ∀ n, longN ts s w r n = longN ts s' w r n
  | 0 => rfl
  | n + 1 => by
    have ih := long_congr h w r n
    unfold longN
    cases he : ts[n]? with
    | none => exact ih
    | some e => dsimp only; rw [h n (List.getElem?_eq_some_iff.1 he).1, ih]
theorem blk_congr (h : ∀ j, j < ts.length → hasB s (j : Int) = hasB s' (j : Int)) (w : Nat) : ∀ n, blkN ts s s w n = blkN ts s' s' w n
  | 0 => rfl
  | n + 1 => by
    rw [blkN_s, blkN_s, blk_congr h w n, ceil_congr h]
    show _ + (if _ then 0 else longN ts s w n ts.length) = _ + (if _ then 0 else longN ts s' w n ts.length)
    rw [long_congr h]
theorem in_congr (h : ∀ j, j < ts.length → hasB s (j : Int) = hasB s' (j : Int)) (j : Nat) : inS ts s j ↔ inS ts s' j :=
  ⟨fun q => ⟨by rw [← h j q.2]; exact q.1, q.2⟩, fun q => ⟨by rw [h j q.2]; exact q.1, q.2⟩⟩
theorem resp_congr (h : ∀ j, j < ts.length → hasB s (j : Int) = hasB s' (j : Int)) {i R : Nat} (hr : RespP ts s i R) : RespP ts s' i R := by
  refine ⟨hr.one, hr.per, ?_⟩
  have := hr.fix
  rw [show blkV ts s s i = blkV ts s' s' i from blk_congr h i 8] at this
  rw [sumI_ext i (g := fun j => if inS ts s j then tk ts j 2 * (cd R (tk ts j 0).toNat : Int) else 0) (fun j _ => by
    by_cases q : inS ts s j
    · rw [if_pos q, if_pos ((in_congr h j).1 q)]
    · rw [if_neg q, if_neg (fun z => q ((in_congr h j).2 z))])]
  exact this
theorem wN_same (ts : List (Nat → Int)) (hn : ts.length ≤ 16) (s : BitVec 32) : ∀ j, j < ts.length → hasB (wN s ts.length) (j : Int) = hasB s (j : Int) := fun j hj => by
  rw [Bool.eq_iff_iff, wN_has (by omega) _ hn]; exact ⟨fun q => q.2, fun q => ⟨hj, q⟩⟩
theorem see_late {w : Way} (hT : TsOk ts) (h : ∀ i, inS ts s i → ∃ R, RespP ts s i R) : ∀ n, n ≤ 1000000 → (seeN ts w s n).lt = false
  | 0, _ => rfl
  | n + 1, hn => by
    have ih := see_late (w := w) hT h n (by omega)
    by_cases q : (ranC ts w s n).over = true
    · obtain ⟨k, hk, hk16, hin⟩ := ran_over hT (by omega) q
      obtain ⟨R, hR⟩ := h k hin
      rw [seeN_t q hk, ih]
      exact (ran_bound hT hin hR (by omega) hk q).2
    · rw [seeN_f (by simpa using q)]; exact ih
theorem see_le {w : Way} (hT : TsOk ts) {i R : Nat} (hi : inS ts s i) (hR : RespP ts s i R) : ∀ n, n ≤ 1000000 → (seeN ts w s n).lg i ≤ R
  | 0, _ => by show (0 : Int) ≤ R; omega
  | n + 1, hn => by
    have ih := see_le (w := w) hT hi hR n (by omega)
    by_cases q : (ranC ts w s n).over = true
    · obtain ⟨k, hk, hk16, hin⟩ := ran_over hT (by omega) q
      rw [seeN_t q hk]
      show upd _ k _ i ≤ _
      by_cases e : i = k
      · subst e
        rw [upd_same]
        have := (ran_bound hT hi hR (by omega) hk q).1
        omega
      · rw [upd_ne _ _ e]; exact ih
    · rw [seeN_f (by simpa using q)]; exact ih
theorem idle_of {w : Way} {r : Nat} (h : ∃ u, u ≤ r ∧ (ranC ts w s u).task = -1) : ∃ v : Nat, idleN ts w s (r + 1) = ((v : Int), true) ∧ v ≤ r := by
  obtain ⟨u, h1, h2⟩ := h
  unfold idleN
  cases hf : (List.range (r + 1)).find? (fun u => decide ((ranC ts w s u).task < 0)) with
  | none =>
    have := List.find?_eq_none.1 hf u (List.mem_range.2 (by omega))
    simp [h2] at this
  | some v =>
    have := List.mem_range.1 (List.mem_of_find?_eq_some hf)
    exact ⟨v, rfl, by omega⟩
end

theorem simulBounds {Ki : Asrt B} (x : Img) (hx : x.In Ki) (s : BitVec 32) (w : Way) (hw : WayOk w) (mny : Int) (hK : Rd K ⟨0, 0, none⟩ (tab32.map fun m => .int .u8 m)) (hd : Dup K) : Ctr Tryd.prog B 6 [x.v, .int .u32 s.toNat, .agg (encAsk w mny).toArray] [K, Ki] (fun v S => v = .bool true ∧ S = [K, Ki]) := by
  refine Ctr_of_X (N := 75) Tryd.func6 rfl (by simp) rfl ?_
  intro w0 D0
  refine X_seq ?_
  refine X_region ?_
  refine XL_box (cs := [.int .i64 x.res, .slice x.tasks.oad x.tasks.l.length x.tasks.c, .slice x.modes.oad x.modes.l.length x.modes.c, .slice x.edges.oad x.edges.l.length x.edges.c]) .no rfl rfl rfl (fun b1 => ?_)
  refine XL_box (cs := encAsk w mny) .no rfl rfl rfl (fun b2 => ?_)
  refine XL_det .no (D_pure rfl) rfl ?_
  refine XL_then ?_
  refine X_seq ?_
  refine X_seq ?_
  refine X_region ?_
  refine XL_det .no (D_ldso (vs := [.int .i64 x.res, .slice x.tasks.oad x.tasks.l.length x.tasks.c, .slice x.modes.oad x.modes.l.length x.modes.c, .slice x.edges.oad x.edges.l.length x.edges.c]) rfl (by with_reducible repeat first | exact .here _ _ | apply Out.there | apply Out.app) tk_26 rfl (by rfl)) rfl ?_
  refine XL_callk .no en_9 rfl (rgreat x hx) (by with_reducible repeat first | exact .nil _ | exact .here _ _ | exact Take.self _ | apply Take.cons | apply Out.there | apply Take.skip | exact Take.pre _ _ | apply Out.app) rfl ?_
  refine XL_det .no (D_pure rfl) rfl ?_
  refine XL_split (t := 14) rfl (fun h1 => ?_) (fun h1 => ?_)
  · try simp only [decide_eq_true_eq, decide_eq_false_iff_not, Bool.not_eq_true', Bool.not_eq_false', beq_iff_eq, bne_iff_ne, beq_eq_false_iff_ne, bne_eq_false_iff_eq, Int.not_lt, Int.not_le, gt_iff_lt, ge_iff_le, ne_eq] at h1
    refine XL_skip 14 rfl rfl rfl rfl rfl ?_
    refine XL_skip 14 rfl rfl rfl rfl rfl ?_
    refine XL_skip 14 rfl rfl rfl rfl rfl ?_
    refine XL_det .no (D_pure rfl) rfl ?_
    refine XL_det .no (D_pure rfl) rfl ?_
    refine XL_skip 19 rfl rfl rfl rfl rfl ?_
    refine XL_skip 19 rfl rfl rfl rfl rfl ?_
    refine XL_skip 19 rfl rfl rfl rfl rfl ?_
    refine XL_det .no (D_pure rfl) rfl ?_
    refine XL_then ?_
    refine X_cond_t rfl rfl ?_
    refine X_seq ?_
    refine X_region ?_
    refine XL_det .no (D_pure rfl) rfl ?_
    refine XL_then ?_
    refine X_ret ?_
    refine thenX_ret ?_
    refine ret_ok (.nil _) (res_tmp rfl rfl) ?_
    exact ⟨[K, Ki], ⟨rfl, rfl⟩, _, (by repeat first | (with_reducible first | exact .nil _ | exact .here _ _) | exact .here _ _ | (with_reducible first | exact Take.self _ | apply Take.cons | apply Out.there | apply Take.skip | exact Take.pre _ _ | apply Out.app))⟩
  · try simp only [decide_eq_true_eq, decide_eq_false_iff_not, Bool.not_eq_true', Bool.not_eq_false', beq_iff_eq, bne_iff_ne, beq_eq_false_iff_ne, bne_eq_false_iff_eq, Int.not_lt, Int.not_le, gt_iff_lt, ge_iff_le, ne_eq] at h1
    refine XL_det (.yes 14 rfl rfl rfl) (D_ldso (vs := [.int .i64 x.res, .slice x.tasks.oad x.tasks.l.length x.tasks.c, .slice x.modes.oad x.modes.l.length x.modes.c, .slice x.edges.oad x.edges.l.length x.edges.c]) rfl (by with_reducible repeat first | exact .here _ _ | apply Out.there | apply Out.app) tk_26 rfl (by rfl)) rfl ?_
    refine XL_call (.yes 14 rfl rfl rfl) en_10 rfl (rright x hx h1) (by with_reducible repeat first | exact .nil _ | exact .here _ _ | exact Take.self _ | apply Take.cons | apply Out.there | apply Take.skip | exact Take.pre _ _ | apply Out.app) rfl ?_
    rintro _ _ ⟨br, rfl, hbr, rfl⟩
    simp only [List.cons_append, List.nil_append]
    refine XL_det (.yes 14 rfl rfl rfl) (D_pure rfl) rfl ?_
    refine XL_det .no (D_pure rfl) rfl ?_
    refine XL_det .no (D_pure rfl) rfl ?_
    refine XL_split (t := 19) rfl (fun h2 => ?_) (fun h2 => ?_)
    · try simp only [decide_eq_true_eq, decide_eq_false_iff_not, Bool.not_eq_true', Bool.not_eq_false', beq_iff_eq, bne_iff_ne, beq_eq_false_iff_ne, bne_eq_false_iff_eq, Int.not_lt, Int.not_le, gt_iff_lt, ge_iff_le, ne_eq] at h2
      refine XL_skip 19 rfl rfl rfl rfl rfl ?_
      refine XL_skip 19 rfl rfl rfl rfl rfl ?_
      refine XL_skip 19 rfl rfl rfl rfl rfl ?_
      refine XL_det .no (D_pure rfl) rfl ?_
      refine XL_then ?_
      refine X_cond_t rfl rfl ?_
      refine X_seq ?_
      refine X_region ?_
      refine XL_det .no (D_pure rfl) rfl ?_
      refine XL_then ?_
      refine X_ret ?_
      refine thenX_ret ?_
      refine ret_ok (.nil _) (res_tmp rfl rfl) ?_
      exact ⟨[K, Ki], ⟨rfl, rfl⟩, _, (by repeat first | (with_reducible first | exact .nil _ | exact .here _ _) | exact .here _ _ | (with_reducible first | exact Take.self _ | apply Take.cons | apply Out.there | apply Take.skip | exact Take.pre _ _ | apply Out.app))⟩
    · try simp only [decide_eq_true_eq, decide_eq_false_iff_not, Bool.not_eq_true', Bool.not_eq_false', beq_iff_eq, bne_iff_ne, beq_eq_false_iff_ne, bne_eq_false_iff_eq, Int.not_lt, Int.not_le, gt_iff_lt, ge_iff_le, ne_eq] at h2
      have hR := hbr h2
      have hT := tsok_of hR
      have hn16 := hT.n
      have hsame := wN_same x.tasks.l hn16 s
      have hsame2 : ∀ j, j < x.tasks.l.length → hasB s (j : Int) = hasB (wN s x.tasks.l.length) (j : Int) := fun j hj => (hsame j hj).symm
      have hn6 := nT_in mny
      refine XL_det (.yes 19 rfl rfl rfl) (D_fld rfl fld_83_1 (o' := 17) rfl) rfl ?_
      refine XL_det (.yes 19 rfl rfl rfl) (D_ldo (v := .int .i64 mny) rfl (by with_reducible repeat first | exact .here _ _ | apply Out.there | apply Out.app) tk_3 (ask_m)) rfl ?_
      refine XL_det (.yes 19 rfl rfl rfl) (D_pure rfl) rfl ?_
      refine XL_det .no (D_pure rfl) rfl ?_
      refine XL_then ?_
      refine X_cond rfl (fun h3 => ?_) (fun h3 => ?_)
      · try simp only [decide_eq_true_eq, decide_eq_false_iff_not, Bool.not_eq_true', Bool.not_eq_false', beq_iff_eq, bne_iff_ne, beq_eq_false_iff_ne, bne_eq_false_iff_eq, Int.not_lt, Int.not_le, gt_iff_lt, ge_iff_le, ne_eq] at h3
        refine X_seq ?_
        refine X_region ?_
        refine XL_det .no (D_pure rfl) rfl ?_
        refine XL_then ?_
        refine X_ret ?_
        refine thenX_ret ?_
        refine ret_ok (.nil _) (res_tmp rfl rfl) ?_
        exact ⟨[K, Ki], ⟨rfl, rfl⟩, _, (by repeat first | (with_reducible first | exact .nil _ | exact .here _ _) | exact .here _ _ | (with_reducible first | exact Take.self _ | apply Take.cons | apply Out.there | apply Take.skip | exact Take.pre _ _ | apply Out.app))⟩
      · try simp only [decide_eq_true_eq, decide_eq_false_iff_not, Bool.not_eq_true', Bool.not_eq_false', beq_iff_eq, bne_iff_ne, beq_eq_false_iff_ne, bne_eq_false_iff_eq, Int.not_lt, Int.not_le, gt_iff_lt, ge_iff_le, ne_eq] at h3
        refine X_skip ?_
        refine thenX_normal ?_
        refine X_seq ?_
        refine X_region ?_
        refine XL_det .no (D_ldso (vs := [.int .i64 x.res, .slice x.tasks.oad x.tasks.l.length x.tasks.c, .slice x.modes.oad x.modes.l.length x.modes.c, .slice x.edges.oad x.edges.l.length x.edges.c]) rfl (by with_reducible repeat first | exact .here _ _ | apply Out.there | apply Out.app) tk_26 rfl (by rfl)) rfl ?_
        refine XL_det .no (D_pure rfl) rfl ?_
        refine XL_callk .no en_29 rfl (lwithin x hx hn16 s) (by with_reducible repeat first | exact .nil _ | exact .here _ _ | exact Take.self _ | apply Take.cons | apply Out.there | apply Take.skip | exact Take.pre _ _ | apply Out.app) rfl ?_
        refine XL_det .no (D_pure rfl) rfl ?_
        refine XL_then ?_
        refine X_seq ?_
        refine X_seq ?_
        refine X_region ?_
        refine XL_det .no (D_ldso (vs := [.int .i64 x.res, .slice x.tasks.oad x.tasks.l.length x.tasks.c, .slice x.modes.oad x.modes.l.length x.modes.c, .slice x.edges.oad x.edges.l.length x.edges.c]) rfl (by with_reducible repeat first | exact .here _ _ | apply Out.there | apply Out.app) tk_26 rfl (by rfl)) rfl ?_
        refine XL_call .no en_33 rfl (lfew x hx) (by with_reducible repeat first | exact .nil _ | exact .here _ _ | exact Take.self _ | apply Take.cons | apply Out.there | apply Take.skip | exact Take.pre _ _ | apply Out.app) rfl ?_
        rintro _ _ ⟨bf, rfl, rfl⟩
        simp only [List.cons_append, List.nil_append]
        refine XL_det .no (D_pure rfl) rfl ?_
        refine XL_split (t := 29) rfl (fun h4 => ?_) (fun h4 => ?_)
        · try simp only [decide_eq_true_eq, decide_eq_false_iff_not, Bool.not_eq_true', Bool.not_eq_false', beq_iff_eq, bne_iff_ne, beq_eq_false_iff_ne, bne_eq_false_iff_eq, Int.not_lt, Int.not_le, gt_iff_lt, ge_iff_le, ne_eq] at h4
          refine XL_det (.yes 29 rfl rfl rfl) (D_ldso (vs := [.int .i64 x.res, .slice x.tasks.oad x.tasks.l.length x.tasks.c, .slice x.modes.oad x.modes.l.length x.modes.c, .slice x.edges.oad x.edges.l.length x.edges.c]) rfl (by with_reducible repeat first | exact .here _ _ | apply Out.there | apply Out.app) tk_26 rfl (by rfl)) rfl ?_
          refine XL_det (.yes 29 rfl rfl rfl) (D_pure rfl) rfl ?_
          refine XL_call (.yes 29 rfl rfl rfl) en_34 rfl (rmode x hx hR (wN s x.tasks.l.length)) (by with_reducible repeat first | exact .nil _ | exact .here _ _ | exact Take.self _ | apply Take.cons | apply Out.there | apply Take.skip | exact Take.pre _ _ | apply Out.app) rfl ?_
          rintro _ _ ⟨rm, rfl, hrm, rfl⟩
          simp only [List.cons_append, List.nil_append]
          refine XL_det (.yes 29 rfl rfl rfl) (D_pure rfl) rfl ?_
          refine XL_det .no (D_pure rfl) rfl ?_
          refine XL_then ?_
          refine X_cond rfl (fun h5 => ?_) (fun h5 => ?_)
          · try simp only [decide_eq_true_eq, decide_eq_false_iff_not, Bool.not_eq_true', Bool.not_eq_false', beq_iff_eq, bne_iff_ne, beq_eq_false_iff_ne, bne_eq_false_iff_eq, Int.not_lt, Int.not_le, gt_iff_lt, ge_iff_le, ne_eq] at h5
            have hall : ∀ i, inS x.tasks.l s i → ∃ R, RespP x.tasks.l s i R := fun i hi => by obtain ⟨r, hr⟩ := hrm h5 i ((in_congr hsame2 i).1 hi); exact ⟨r, resp_congr hsame hr⟩
            have hlate := see_late (w := w) hT hall (nT mny) (by omega)
            refine X_seq ?_
            refine X_region ?_
            refine XL_det .no (D_ldso (vs := [.int .i64 x.res, .slice x.tasks.oad x.tasks.l.length x.tasks.c, .slice x.modes.oad x.modes.l.length x.modes.c, .slice x.edges.oad x.edges.l.length x.edges.c]) rfl (by with_reducible repeat first | exact .here _ _ | apply Out.there | apply Out.app) tk_26 rfl (by rfl)) rfl ?_
            refine XL_det .no (D_pure rfl) rfl ?_
            refine XL_det .no (D_fld rfl fld_83_0 (o' := 0) rfl) rfl ?_
            refine XL_det .no (D_ldso (vs := encWay w) rfl (by with_reducible repeat first | exact .here _ _ | apply Out.there | apply Out.app) tk_81 rfl (by rfl)) rfl ?_
            refine XL_det .no (D_fld rfl fld_83_1 (o' := 17) rfl) rfl ?_
            refine XL_det .no (D_ldo (v := .int .i64 mny) rfl (by with_reducible repeat first | exact .here _ _ | apply Out.there | apply Out.app) tk_3 (ask_m)) rfl ?_
            refine XL_callk .no en_35 rfl (wLook x hx hT s w hw mny hK hd) (by with_reducible repeat first | exact .nil _ | exact .here _ _ | exact Take.self _ | apply Take.cons | apply Out.there | apply Take.skip | exact Take.pre _ _ | apply Out.app) rfl ?_
            refine XL_alloc .no zero_86 rfl (fun b3 => ?_)
            refine XL_efd .no (F_stw rfl rfl rfl (by with_reducible repeat first | exact .here _ _ | apply Out.there | apply Out.app) tk_86 rfl rfl) ?_
            refine XL_then ?_
            refine X_seq ?_
            refine X_seq ?_
            refine X_region ?_
            refine XL_det .no (D_fld rfl fld_86_2 (o' := 17) rfl) rfl ?_
            refine XL_det .no (D_ldo (v := .bool false) rfl (by with_reducible repeat first | exact .here _ _ | apply Out.there | apply Out.app) tk_4 (seen_lt.trans (by rw [hlate]))) rfl ?_
            refine XL_then ?_
            refine X_cond_f rfl rfl ?_
            refine X_skip ?_
            refine thenX_normal ?_
            refine X_seq ?_
            refine X_region ?_
            refine XL_det .no (D_pure rfl) rfl ?_
            refine XL_then ?_
            refine X_block ?_
            refine X_loop (α := Nat) (fun i => i ≤ x.tasks.l.length) (fun i => [(9, .int .i64 (i : Int)), (1, .int .u32 s.toNat), (3, .pointer (some ⟨b1, 0, none⟩)), (5, .pointer (some ⟨b2, 0, none⟩)), (7, .int .u32 (wN s x.tasks.l.length).toNat), (8, .pointer (some ⟨b3, 0, none⟩))]) (fun i => [blk b1 [.int .i64 x.res, .slice x.tasks.oad x.tasks.l.length x.tasks.c, .slice x.modes.oad x.modes.l.length x.modes.c, .slice x.edges.oad x.edges.l.length x.edges.c] 26, blk b2 (encAsk w mny) 83, blk b3 (encSeen (seeN x.tasks.l w s (nT mny))) 86, K, Ki]) (fun i => x.tasks.l.length - i) 0 ?_ (by refine ⟨?_, ?_, ?_, ?_, ?_, ?_, trivial⟩ <;> rfl) (by with_reducible repeat first | exact .nil _ | exact .here _ _ | exact Take.self _ | apply Take.cons | apply Out.there | apply Take.skip | exact Take.pre _ _ | apply Out.app) ?_
            · exact Nat.zero_le _
            · rintro i hi
              refine X_seq ?_
              refine X_seq ?_
              refine X_region ?_
              refine XL_det .no (D_pure rfl) rfl ?_
              refine XL_det .no (D_fld rfl fld_26_1 (o' := 1) rfl) rfl ?_
              refine XL_det .no (D_ldo rfl (by with_reducible repeat first | exact .here _ _ | apply Out.there | apply Out.app) tk_22 (by rfl)) rfl ?_
              refine XL_det .no (D_len rfl rfl slc_22) rfl ?_
              refine XL_det .no (D_pure rfl) rfl ?_
              refine XL_then ?_
              refine X_cond rfl (fun h6 => ?_) (fun h6 => ?_)
              · try simp only [decide_eq_true_eq, decide_eq_false_iff_not, Bool.not_eq_true', Bool.not_eq_false', beq_iff_eq, bne_iff_ne, beq_eq_false_iff_ne, bne_eq_false_iff_eq, Int.not_lt, Int.not_le, gt_iff_lt, ge_iff_le, ne_eq] at h6
                obtain ⟨e, he⟩ : ∃ e, x.tasks.l[i]? = some e := ⟨_, List.getElem?_eq_getElem (by omega)⟩
                refine X_skip ?_
                refine thenX_normal ?_
                refine X_seq ?_
                refine X_block ?_
                refine X_seq ?_
                refine X_region ?_
                refine XL_det .no (D_ldso (vs := [.int .i64 x.res, .slice x.tasks.oad x.tasks.l.length x.tasks.c, .slice x.modes.oad x.modes.l.length x.modes.c, .slice x.edges.oad x.edges.l.length x.edges.c]) rfl (by with_reducible repeat first | exact .here _ _ | apply Out.there | apply Out.app) tk_26 rfl (by rfl)) rfl ?_
                refine XL_det .no (D_pure rfl) rfl ?_
                refine XL_det .no (D_pure rfl) rfl ?_
                refine XL_det .no (D_pure rfl) rfl ?_
                refine XL_det .no (D_pure rfl) rfl ?_
                refine XL_call .no en_36 rfl (rresp x hx hR (wN s x.tasks.l.length) i e he) (by with_reducible repeat first | exact .nil _ | exact .here _ _ | exact Take.self _ | apply Take.cons | apply Out.there | apply Take.skip | exact Take.pre _ _ | apply Out.app) rfl ?_
                rintro _ _ ⟨rn, rok, rfl, hres, rfl⟩
                simp only [List.cons_append, List.nil_append]
                refine XL_det .no (D_pure rfl) rfl ?_
                refine XL_det .no (D_pure (v := .int .i64 rn) rfl) rfl ?_
                refine XL_det .no (D_pure (v := .bool rok) rfl) rfl ?_
                refine XL_det .no (D_pure rfl) rfl ?_
                refine XL_det .no (D_pure rfl) rfl ?_
                refine XL_then ?_
                refine X_seq ?_
                refine X_region ?_
                refine XL_det .no (D_pure rfl) rfl ?_
                refine XL_det .no (D_pure rfl) rfl ?_
                refine XL_callv .no en_37 rfl (has (wN s x.tasks.l.length) (i : Int)) rfl ?_
                refine XL_det .no (D_pure rfl) rfl ?_
                refine XL_split (t := 63) rfl (fun h7 => ?_) (fun h7 => ?_)
                · try simp only [decide_eq_true_eq, decide_eq_false_iff_not, Bool.not_eq_true', Bool.not_eq_false', beq_iff_eq, bne_iff_ne, beq_eq_false_iff_ne, bne_eq_false_iff_eq, Int.not_lt, Int.not_le, gt_iff_lt, ge_iff_le, ne_eq] at h7
                  refine XL_det (.yes 63 rfl rfl rfl) (D_pure rfl) rfl ?_
                  refine XL_det .no (D_pure rfl) rfl ?_
                  refine XL_det .no (D_pure rfl) rfl ?_
                  refine XL_split (t := 66) rfl (fun h8 => ?_) (fun h8 => ?_)
                  · try simp only [decide_eq_true_eq, decide_eq_false_iff_not, Bool.not_eq_true', Bool.not_eq_false', beq_iff_eq, bne_iff_ne, beq_eq_false_iff_ne, bne_eq_false_iff_eq, Int.not_lt, Int.not_le, gt_iff_lt, ge_iff_le, ne_eq] at h8
                    refine XL_det (.yes 66 rfl rfl rfl) (D_pure rfl) rfl ?_
                    refine XL_det (.yes 66 rfl rfl rfl) (D_fld rfl fld_86_0 (o' := 0) rfl) rfl ?_
                    refine XL_det (.yes 66 rfl rfl rfl) (D_idxA rfl rfl arr_38 rfl (by omega) rfl) rfl ?_
                    refine XL_det (.yes 66 rfl rfl rfl) (D_ldo (v := .int .i64 ((seeN x.tasks.l w s (nT mny)).lg i)) rfl (by with_reducible repeat first | exact .here _ _ | apply Out.there | apply Out.app) tk_3 (seen_lg (by omega))) rfl ?_
                    refine XL_det (.yes 66 rfl rfl rfl) (D_pure rfl) rfl ?_
                    refine XL_det (.yes 66 rfl rfl rfl) (D_pure rfl) rfl ?_
                    refine XL_det .no (D_pure rfl) rfl ?_
                    refine XL_then ?_
                    refine X_cond rfl (fun h9 => ?_) (fun h9 => ?_)
                    · try simp only [decide_eq_true_eq, decide_eq_false_iff_not, Bool.not_eq_true', Bool.not_eq_false', beq_iff_eq, bne_iff_ne, beq_eq_false_iff_ne, bne_eq_false_iff_eq, Int.not_lt, Int.not_le, gt_iff_lt, ge_iff_le, ne_eq] at h9
                      exfalso; obtain ⟨r, g1, g2⟩ := hres h8; have := see_le (w := w) hT ⟨by rw [← hsame i (by omega)]; exact h7, by omega⟩ (resp_congr hsame g2) (nT mny) (by omega); omega
                    · try simp only [decide_eq_true_eq, decide_eq_false_iff_not, Bool.not_eq_true', Bool.not_eq_false', beq_iff_eq, bne_iff_ne, beq_eq_false_iff_ne, bne_eq_false_iff_eq, Int.not_lt, Int.not_le, gt_iff_lt, ge_iff_le, ne_eq] at h9
                      refine X_skip ?_
                      refine inBlk_normal ?_
                      refine thenX_normal ?_
                      refine X_region ?_
                      refine XL_det .no (D_pure rfl) rfl ?_
                      refine XL_det .no (D_add rfl rfl (by omega) (by omega)) rfl ?_
                      refine XL_det .no (D_pure rfl) rfl ?_
                      refine XL_nil ?_
                      refine loopQ_next (i + 1) ?_ ?_ ?_ ?_
                      · omega
                      · omega
                      · refine ⟨?_, ?_, ?_, ?_, ?_, ?_, trivial⟩ <;> rfl
                      · exact ⟨_, (by with_reducible repeat first | exact .nil _ | exact .here _ _ | exact Take.self _ | apply Take.cons | apply Out.there | apply Take.skip | exact Take.pre _ _ | apply Out.app)⟩
                  · try simp only [decide_eq_true_eq, decide_eq_false_iff_not, Bool.not_eq_true', Bool.not_eq_false', beq_iff_eq, bne_iff_ne, beq_eq_false_iff_ne, bne_eq_false_iff_eq, Int.not_lt, Int.not_le, gt_iff_lt, ge_iff_le, ne_eq] at h8
                    refine XL_skip 66 rfl rfl rfl rfl rfl ?_
                    refine XL_skip 66 rfl rfl rfl rfl rfl ?_
                    refine XL_skip 66 rfl rfl rfl rfl rfl ?_
                    refine XL_skip 66 rfl rfl rfl rfl rfl ?_
                    refine XL_skip 66 rfl rfl rfl rfl rfl ?_
                    refine XL_skip 66 rfl rfl rfl rfl rfl ?_
                    refine XL_det .no (D_pure rfl) rfl ?_
                    refine XL_then ?_
                    refine X_cond_f rfl rfl ?_
                    refine X_skip ?_
                    refine inBlk_normal ?_
                    refine thenX_normal ?_
                    refine X_region ?_
                    refine XL_det .no (D_pure rfl) rfl ?_
                    refine XL_det .no (D_add rfl rfl (by omega) (by omega)) rfl ?_
                    refine XL_det .no (D_pure rfl) rfl ?_
                    refine XL_nil ?_
                    refine loopQ_next (i + 1) ?_ ?_ ?_ ?_
                    · omega
                    · omega
                    · refine ⟨?_, ?_, ?_, ?_, ?_, ?_, trivial⟩ <;> rfl
                    · exact ⟨_, (by with_reducible repeat first | exact .nil _ | exact .here _ _ | exact Take.self _ | apply Take.cons | apply Out.there | apply Take.skip | exact Take.pre _ _ | apply Out.app)⟩
                · try simp only [decide_eq_true_eq, decide_eq_false_iff_not, Bool.not_eq_true', Bool.not_eq_false', beq_iff_eq, bne_iff_ne, beq_eq_false_iff_ne, bne_eq_false_iff_eq, Int.not_lt, Int.not_le, gt_iff_lt, ge_iff_le, ne_eq] at h7
                  refine XL_skip 63 rfl rfl rfl rfl rfl ?_
                  refine XL_det .no (D_pure rfl) rfl ?_
                  refine XL_det .no (D_pure rfl) rfl ?_
                  refine XL_skip 66 rfl rfl rfl rfl rfl ?_
                  refine XL_skip 66 rfl rfl rfl rfl rfl ?_
                  refine XL_skip 66 rfl rfl rfl rfl rfl ?_
                  refine XL_skip 66 rfl rfl rfl rfl rfl ?_
                  refine XL_skip 66 rfl rfl rfl rfl rfl ?_
                  refine XL_skip 66 rfl rfl rfl rfl rfl ?_
                  refine XL_det .no (D_pure rfl) rfl ?_
                  refine XL_then ?_
                  refine X_cond_f rfl rfl ?_
                  refine X_skip ?_
                  refine inBlk_normal ?_
                  refine thenX_normal ?_
                  refine X_region ?_
                  refine XL_det .no (D_pure rfl) rfl ?_
                  refine XL_det .no (D_add rfl rfl (by omega) (by omega)) rfl ?_
                  refine XL_det .no (D_pure rfl) rfl ?_
                  refine XL_nil ?_
                  refine loopQ_next (i + 1) ?_ ?_ ?_ ?_
                  · omega
                  · omega
                  · refine ⟨?_, ?_, ?_, ?_, ?_, ?_, trivial⟩ <;> rfl
                  · exact ⟨_, (by with_reducible repeat first | exact .nil _ | exact .here _ _ | exact Take.self _ | apply Take.cons | apply Out.there | apply Take.skip | exact Take.pre _ _ | apply Out.app)⟩
              · try simp only [decide_eq_true_eq, decide_eq_false_iff_not, Bool.not_eq_true', Bool.not_eq_false', beq_iff_eq, bne_iff_ne, beq_eq_false_iff_ne, bne_eq_false_iff_eq, Int.not_lt, Int.not_le, gt_iff_lt, ge_iff_le, ne_eq] at h6
                refine X_exit ?_
                refine thenX_exit ?_
                refine loopQ_exit ?_
                refine inBlk_here ?_
                refine thenX_normal ?_
                refine X_seq ?_
                refine X_region ?_
                refine XL_callk .no en_38 rfl (alive45 hK hd) (by with_reducible repeat first | exact .nil _ | exact .here _ _ | exact Take.self _ | apply Take.cons | apply Out.there | apply Take.skip | exact Take.pre _ _ | apply Out.app) rfl ?_
                refine XL_det .no (D_pure rfl) rfl ?_
                refine XL_then ?_
                refine X_ret ?_
                refine ret_ok (.nil _) (res_tmp rfl rfl) ?_
                exact ⟨[K, Ki], ⟨rfl, rfl⟩, _, (by repeat first | (with_reducible first | exact .nil _ | exact .here _ _) | exact .here _ _ | (with_reducible first | exact Take.self _ | apply Take.cons | apply Out.there | apply Take.skip | exact Take.pre _ _ | apply Out.app))⟩
          · try simp only [decide_eq_true_eq, decide_eq_false_iff_not, Bool.not_eq_true', Bool.not_eq_false', beq_iff_eq, bne_iff_ne, beq_eq_false_iff_ne, bne_eq_false_iff_eq, Int.not_lt, Int.not_le, gt_iff_lt, ge_iff_le, ne_eq] at h5
            refine X_skip ?_
            refine thenX_normal ?_
            refine X_seq ?_
            refine X_region ?_
            refine XL_callk .no en_38 rfl (alive45 hK hd) (by with_reducible repeat first | exact .nil _ | exact .here _ _ | exact Take.self _ | apply Take.cons | apply Out.there | apply Take.skip | exact Take.pre _ _ | apply Out.app) rfl ?_
            refine XL_det .no (D_pure rfl) rfl ?_
            refine XL_then ?_
            refine X_ret ?_
            refine ret_ok (.nil _) (res_tmp rfl rfl) ?_
            exact ⟨[K, Ki], ⟨rfl, rfl⟩, _, (by repeat first | (with_reducible first | exact .nil _ | exact .here _ _) | exact .here _ _ | (with_reducible first | exact Take.self _ | apply Take.cons | apply Out.there | apply Take.skip | exact Take.pre _ _ | apply Out.app))⟩
        · try simp only [decide_eq_true_eq, decide_eq_false_iff_not, Bool.not_eq_true', Bool.not_eq_false', beq_iff_eq, bne_iff_ne, beq_eq_false_iff_ne, bne_eq_false_iff_eq, Int.not_lt, Int.not_le, gt_iff_lt, ge_iff_le, ne_eq] at h4
          refine XL_skip 29 rfl rfl rfl rfl rfl ?_
          refine XL_skip 29 rfl rfl rfl rfl rfl ?_
          refine XL_skip 29 rfl rfl rfl rfl rfl ?_
          refine XL_skip 29 rfl rfl rfl rfl rfl ?_
          refine XL_det .no (D_pure rfl) rfl ?_
          refine XL_then ?_
          refine X_cond_f rfl rfl ?_
          refine X_skip ?_
          refine thenX_normal ?_
          refine X_seq ?_
          refine X_region ?_
          refine XL_callk .no en_38 rfl (alive45 hK hd) (by with_reducible repeat first | exact .nil _ | exact .here _ _ | exact Take.self _ | apply Take.cons | apply Out.there | apply Take.skip | exact Take.pre _ _ | apply Out.app) rfl ?_
          refine XL_det .no (D_pure rfl) rfl ?_
          refine XL_then ?_
          refine X_ret ?_
          refine ret_ok (.nil _) (res_tmp rfl rfl) ?_
          exact ⟨[K, Ki], ⟨rfl, rfl⟩, _, (by repeat first | (with_reducible first | exact .nil _ | exact .here _ _) | exact .here _ _ | (with_reducible first | exact Take.self _ | apply Take.cons | apply Out.there | apply Take.skip | exact Take.pre _ _ | apply Out.app))⟩

theorem simulIdle {Ki : Asrt B} (x : Img) (hx : x.In Ki) (s : BitVec 32) (w : Way) (hw : WayOk w) (hK : Rd K ⟨0, 0, none⟩ (tab32.map fun m => .int .u8 m)) (hd : Dup K) : Ctr Tryd.prog B 8 [x.v, .int .u32 s.toNat, .agg (encWay w).toArray] [K, Ki] (fun v S => v = .bool true ∧ S = [K, Ki]) := by
  refine Ctr_of_X (N := 64) Tryd.func8 rfl (by simp) rfl ?_
  intro w0 D0
  refine X_seq ?_
  refine X_region ?_
  refine XL_box (cs := [.int .i64 x.res, .slice x.tasks.oad x.tasks.l.length x.tasks.c, .slice x.modes.oad x.modes.l.length x.modes.c, .slice x.edges.oad x.edges.l.length x.edges.c]) .no rfl rfl rfl (fun b1 => ?_)
  refine XL_box (cs := encWay w) .no rfl rfl rfl (fun b2 => ?_)
  refine XL_det .no (D_pure rfl) rfl ?_
  refine XL_then ?_
  refine X_seq ?_
  refine X_seq ?_
  refine X_region ?_
  refine XL_det .no (D_ldso (vs := [.int .i64 x.res, .slice x.tasks.oad x.tasks.l.length x.tasks.c, .slice x.modes.oad x.modes.l.length x.modes.c, .slice x.edges.oad x.edges.l.length x.edges.c]) rfl (by with_reducible repeat first | exact .here _ _ | apply Out.there | apply Out.app) tk_26 rfl (by rfl)) rfl ?_
  refine XL_callk .no en_9 rfl (rgreat x hx) (by with_reducible repeat first | exact .nil _ | exact .here _ _ | exact Take.self _ | apply Take.cons | apply Out.there | apply Take.skip | exact Take.pre _ _ | apply Out.app) rfl ?_
  refine XL_det .no (D_pure rfl) rfl ?_
  refine XL_split (t := 14) rfl (fun h1 => ?_) (fun h1 => ?_)
  · try simp only [decide_eq_true_eq, decide_eq_false_iff_not, Bool.not_eq_true', Bool.not_eq_false', beq_iff_eq, bne_iff_ne, beq_eq_false_iff_ne, bne_eq_false_iff_eq, Int.not_lt, Int.not_le, gt_iff_lt, ge_iff_le, ne_eq] at h1
    refine XL_skip 14 rfl rfl rfl rfl rfl ?_
    refine XL_skip 14 rfl rfl rfl rfl rfl ?_
    refine XL_skip 14 rfl rfl rfl rfl rfl ?_
    refine XL_det .no (D_pure rfl) rfl ?_
    refine XL_det .no (D_pure rfl) rfl ?_
    refine XL_skip 19 rfl rfl rfl rfl rfl ?_
    refine XL_skip 19 rfl rfl rfl rfl rfl ?_
    refine XL_skip 19 rfl rfl rfl rfl rfl ?_
    refine XL_det .no (D_pure rfl) rfl ?_
    refine XL_then ?_
    refine X_cond_t rfl rfl ?_
    refine X_seq ?_
    refine X_region ?_
    refine XL_det .no (D_pure rfl) rfl ?_
    refine XL_then ?_
    refine X_ret ?_
    refine thenX_ret ?_
    refine ret_ok (.nil _) (res_tmp rfl rfl) ?_
    exact ⟨[K, Ki], ⟨rfl, rfl⟩, _, (by repeat first | (with_reducible first | exact .nil _ | exact .here _ _) | exact .here _ _ | (with_reducible first | exact Take.self _ | apply Take.cons | apply Out.there | apply Take.skip | exact Take.pre _ _ | apply Out.app))⟩
  · try simp only [decide_eq_true_eq, decide_eq_false_iff_not, Bool.not_eq_true', Bool.not_eq_false', beq_iff_eq, bne_iff_ne, beq_eq_false_iff_ne, bne_eq_false_iff_eq, Int.not_lt, Int.not_le, gt_iff_lt, ge_iff_le, ne_eq] at h1
    refine XL_det (.yes 14 rfl rfl rfl) (D_ldso (vs := [.int .i64 x.res, .slice x.tasks.oad x.tasks.l.length x.tasks.c, .slice x.modes.oad x.modes.l.length x.modes.c, .slice x.edges.oad x.edges.l.length x.edges.c]) rfl (by with_reducible repeat first | exact .here _ _ | apply Out.there | apply Out.app) tk_26 rfl (by rfl)) rfl ?_
    refine XL_call (.yes 14 rfl rfl rfl) en_10 rfl (rright x hx h1) (by with_reducible repeat first | exact .nil _ | exact .here _ _ | exact Take.self _ | apply Take.cons | apply Out.there | apply Take.skip | exact Take.pre _ _ | apply Out.app) rfl ?_
    rintro _ _ ⟨br, rfl, hbr, rfl⟩
    simp only [List.cons_append, List.nil_append]
    refine XL_det (.yes 14 rfl rfl rfl) (D_pure rfl) rfl ?_
    refine XL_det .no (D_pure rfl) rfl ?_
    refine XL_det .no (D_pure rfl) rfl ?_
    refine XL_split (t := 19) rfl (fun h2 => ?_) (fun h2 => ?_)
    · try simp only [decide_eq_true_eq, decide_eq_false_iff_not, Bool.not_eq_true', Bool.not_eq_false', beq_iff_eq, bne_iff_ne, beq_eq_false_iff_ne, bne_eq_false_iff_eq, Int.not_lt, Int.not_le, gt_iff_lt, ge_iff_le, ne_eq] at h2
      refine XL_skip 19 rfl rfl rfl rfl rfl ?_
      refine XL_skip 19 rfl rfl rfl rfl rfl ?_
      refine XL_skip 19 rfl rfl rfl rfl rfl ?_
      refine XL_det .no (D_pure rfl) rfl ?_
      refine XL_then ?_
      refine X_cond_t rfl rfl ?_
      refine X_seq ?_
      refine X_region ?_
      refine XL_det .no (D_pure rfl) rfl ?_
      refine XL_then ?_
      refine X_ret ?_
      refine thenX_ret ?_
      refine ret_ok (.nil _) (res_tmp rfl rfl) ?_
      exact ⟨[K, Ki], ⟨rfl, rfl⟩, _, (by repeat first | (with_reducible first | exact .nil _ | exact .here _ _) | exact .here _ _ | (with_reducible first | exact Take.self _ | apply Take.cons | apply Out.there | apply Take.skip | exact Take.pre _ _ | apply Out.app))⟩
    · try simp only [decide_eq_true_eq, decide_eq_false_iff_not, Bool.not_eq_true', Bool.not_eq_false', beq_iff_eq, bne_iff_ne, beq_eq_false_iff_ne, bne_eq_false_iff_eq, Int.not_lt, Int.not_le, gt_iff_lt, ge_iff_le, ne_eq] at h2
      have hR := hbr h2
      have hT := tsok_of hR
      have hn16 := hT.n
      have hsame := wN_same x.tasks.l hn16 s
      have hsame2 : ∀ j, j < x.tasks.l.length → hasB s (j : Int) = hasB (wN s x.tasks.l.length) (j : Int) := fun j hj => (hsame j hj).symm
      refine XL_det (.yes 19 rfl rfl rfl) (D_ldso (vs := [.int .i64 x.res, .slice x.tasks.oad x.tasks.l.length x.tasks.c, .slice x.modes.oad x.modes.l.length x.modes.c, .slice x.edges.oad x.edges.l.length x.edges.c]) rfl (by with_reducible repeat first | exact .here _ _ | apply Out.there | apply Out.app) tk_26 rfl (by rfl)) rfl ?_
      refine XL_call (.yes 19 rfl rfl rfl) en_33 rfl (lfew x hx) (by with_reducible repeat first | exact .nil _ | exact .here _ _ | exact Take.self _ | apply Take.cons | apply Out.there | apply Take.skip | exact Take.pre _ _ | apply Out.app) rfl ?_
      rintro _ _ ⟨bf, rfl, rfl⟩
      simp only [List.cons_append, List.nil_append]
      refine XL_det (.yes 19 rfl rfl rfl) (D_pure rfl) rfl ?_
      refine XL_det .no (D_pure rfl) rfl ?_
      refine XL_then ?_
      refine X_cond rfl (fun h3 => ?_) (fun h3 => ?_)
      · try simp only [decide_eq_true_eq, decide_eq_false_iff_not, Bool.not_eq_true', Bool.not_eq_false', beq_iff_eq, bne_iff_ne, beq_eq_false_iff_ne, bne_eq_false_iff_eq, Int.not_lt, Int.not_le, gt_iff_lt, ge_iff_le, ne_eq] at h3
        refine X_seq ?_
        refine X_region ?_
        refine XL_det .no (D_pure rfl) rfl ?_
        refine XL_then ?_
        refine X_ret ?_
        refine thenX_ret ?_
        refine ret_ok (.nil _) (res_tmp rfl rfl) ?_
        exact ⟨[K, Ki], ⟨rfl, rfl⟩, _, (by repeat first | (with_reducible first | exact .nil _ | exact .here _ _) | exact .here _ _ | (with_reducible first | exact Take.self _ | apply Take.cons | apply Out.there | apply Take.skip | exact Take.pre _ _ | apply Out.app))⟩
      · try simp only [decide_eq_true_eq, decide_eq_false_iff_not, Bool.not_eq_true', Bool.not_eq_false', beq_iff_eq, bne_iff_ne, beq_eq_false_iff_ne, bne_eq_false_iff_eq, Int.not_lt, Int.not_le, gt_iff_lt, ge_iff_le, ne_eq] at h3
        refine X_skip ?_
        refine thenX_normal ?_
        refine X_seq ?_
        refine X_region ?_
        refine XL_det .no (D_ldso (vs := [.int .i64 x.res, .slice x.tasks.oad x.tasks.l.length x.tasks.c, .slice x.modes.oad x.modes.l.length x.modes.c, .slice x.edges.oad x.edges.l.length x.edges.c]) rfl (by with_reducible repeat first | exact .here _ _ | apply Out.there | apply Out.app) tk_26 rfl (by rfl)) rfl ?_
        refine XL_det .no (D_pure rfl) rfl ?_
        refine XL_callk .no en_29 rfl (lwithin x hx hn16 s) (by with_reducible repeat first | exact .nil _ | exact .here _ _ | exact Take.self _ | apply Take.cons | apply Out.there | apply Take.skip | exact Take.pre _ _ | apply Out.app) rfl ?_
        refine XL_det .no (D_pure rfl) rfl ?_
        refine XL_then ?_
        refine X_seq ?_
        refine X_region ?_
        refine XL_det .no (D_ldso (vs := [.int .i64 x.res, .slice x.tasks.oad x.tasks.l.length x.tasks.c, .slice x.modes.oad x.modes.l.length x.modes.c, .slice x.edges.oad x.edges.l.length x.edges.c]) rfl (by with_reducible repeat first | exact .here _ _ | apply Out.there | apply Out.app) tk_26 rfl (by rfl)) rfl ?_
        refine XL_det .no (D_pure rfl) rfl ?_
        refine XL_call .no en_44 rfl (rbusy x hx hR (wN s x.tasks.l.length)) (by with_reducible repeat first | exact .nil _ | exact .here _ _ | exact Take.self _ | apply Take.cons | apply Out.there | apply Take.skip | exact Take.pre _ _ | apply Out.app) rfl ?_
        rintro _ _ ⟨bn, bok, rfl, hb, rfl⟩
        simp only [List.cons_append, List.nil_append]
        refine XL_det .no (D_pure rfl) rfl ?_
        refine XL_det .no (D_pure (v := .int .i64 bn) rfl) rfl ?_
        refine XL_det .no (D_pure (v := .bool bok) rfl) rfl ?_
        refine XL_det .no (D_pure rfl) rfl ?_
        refine XL_det .no (D_pure rfl) rfl ?_
        refine XL_then ?_
        refine X_seq ?_
        refine X_seq ?_
        refine X_region ?_
        refine XL_det .no (D_pure rfl) rfl ?_
        refine XL_det .no (D_pure rfl) rfl ?_
        refine XL_det .no (D_pure rfl) rfl ?_
        refine XL_split (t := 35) rfl (fun h4 => ?_) (fun h4 => ?_)
        · try simp only [decide_eq_true_eq, decide_eq_false_iff_not, Bool.not_eq_true', Bool.not_eq_false', beq_iff_eq, bne_iff_ne, beq_eq_false_iff_ne, bne_eq_false_iff_eq, Int.not_lt, Int.not_le, gt_iff_lt, ge_iff_le, ne_eq] at h4
          refine XL_skip 35 rfl rfl rfl rfl rfl ?_
          refine XL_skip 35 rfl rfl rfl rfl rfl ?_
          refine XL_det .no (D_pure rfl) rfl ?_
          refine XL_det .no (D_pure rfl) rfl ?_
          refine XL_skip 39 rfl rfl rfl rfl rfl ?_
          refine XL_skip 39 rfl rfl rfl rfl rfl ?_
          refine XL_skip 39 rfl rfl rfl rfl rfl ?_
          refine XL_skip 39 rfl rfl rfl rfl rfl ?_
          refine XL_det .no (D_pure rfl) rfl ?_
          refine XL_then ?_
          refine X_cond_t rfl rfl ?_
          refine X_seq ?_
          refine X_region ?_
          refine XL_callk .no en_38 rfl (alive45 hK hd) (by with_reducible repeat first | exact .nil _ | exact .here _ _ | exact Take.self _ | apply Take.cons | apply Out.there | apply Take.skip | exact Take.pre _ _ | apply Out.app) rfl ?_
          refine XL_det .no (D_pure rfl) rfl ?_
          refine XL_then ?_
          refine X_ret ?_
          refine thenX_ret ?_
          refine ret_ok (.nil _) (res_tmp rfl rfl) ?_
          exact ⟨[K, Ki], ⟨rfl, rfl⟩, _, (by repeat first | (with_reducible first | exact .nil _ | exact .here _ _) | exact .here _ _ | (with_reducible first | exact Take.self _ | apply Take.cons | apply Out.there | apply Take.skip | exact Take.pre _ _ | apply Out.app))⟩
        · try simp only [decide_eq_true_eq, decide_eq_false_iff_not, Bool.not_eq_true', Bool.not_eq_false', beq_iff_eq, bne_iff_ne, beq_eq_false_iff_ne, bne_eq_false_iff_eq, Int.not_lt, Int.not_le, gt_iff_lt, ge_iff_le, ne_eq] at h4
          obtain ⟨r, rfl, hr6, hbs⟩ := hb h4
          refine XL_det (.yes 35 rfl rfl rfl) (D_pure rfl) rfl ?_
          refine XL_det (.yes 35 rfl rfl rfl) (D_pure rfl) rfl ?_
          refine XL_det .no (D_pure rfl) rfl ?_
          refine XL_det .no (D_pure rfl) rfl ?_
          refine XL_split (t := 39) rfl (fun h5 => ?_) (fun h5 => ?_)
          · try simp only [decide_eq_true_eq, decide_eq_false_iff_not, Bool.not_eq_true', Bool.not_eq_false', beq_iff_eq, bne_iff_ne, beq_eq_false_iff_ne, bne_eq_false_iff_eq, Int.not_lt, Int.not_le, gt_iff_lt, ge_iff_le, ne_eq] at h5
            refine XL_skip 39 rfl rfl rfl rfl rfl ?_
            refine XL_skip 39 rfl rfl rfl rfl rfl ?_
            refine XL_skip 39 rfl rfl rfl rfl rfl ?_
            refine XL_skip 39 rfl rfl rfl rfl rfl ?_
            refine XL_det .no (D_pure rfl) rfl ?_
            refine XL_then ?_
            refine X_cond_t rfl rfl ?_
            refine X_seq ?_
            refine X_region ?_
            refine XL_callk .no en_38 rfl (alive45 hK hd) (by with_reducible repeat first | exact .nil _ | exact .here _ _ | exact Take.self _ | apply Take.cons | apply Out.there | apply Take.skip | exact Take.pre _ _ | apply Out.app) rfl ?_
            refine XL_det .no (D_pure rfl) rfl ?_
            refine XL_then ?_
            refine X_ret ?_
            refine thenX_ret ?_
            refine ret_ok (.nil _) (res_tmp rfl rfl) ?_
            exact ⟨[K, Ki], ⟨rfl, rfl⟩, _, (by repeat first | (with_reducible first | exact .nil _ | exact .here _ _) | exact .here _ _ | (with_reducible first | exact Take.self _ | apply Take.cons | apply Out.there | apply Take.skip | exact Take.pre _ _ | apply Out.app))⟩
          · try simp only [decide_eq_true_eq, decide_eq_false_iff_not, Bool.not_eq_true', Bool.not_eq_false', beq_iff_eq, bne_iff_ne, beq_eq_false_iff_ne, bne_eq_false_iff_eq, Int.not_lt, Int.not_le, gt_iff_lt, ge_iff_le, ne_eq] at h5
            have hid := sim_idle (w := w) (s := s) hT (n := r) (by omega) (by rw [sumI_ext 16 (g := fun j => if inS x.tasks.l (wN s x.tasks.l.length) j then tk x.tasks.l j 2 * ((cd r (tk x.tasks.l j 0).toNat : Int) + 1) else 0) (fun j _ => by by_cases q : inS x.tasks.l s j; rw [if_pos q, if_pos ((in_congr hsame2 j).1 q)]; rw [if_neg q, if_neg (fun z => q ((in_congr hsame2 j).2 z))])]; exact hbs)
            obtain ⟨u, hu1, hu2⟩ := idle_of hid
            have hid2 : idleN x.tasks.l w s (nT ((r : Int) + 1)) = ((u : Int), true) := by rw [show nT ((r : Int) + 1) = r + 1 by unfold nT; omega]; exact hu1
            refine XL_det (.yes 39 rfl rfl rfl) (D_ldso (vs := [.int .i64 x.res, .slice x.tasks.oad x.tasks.l.length x.tasks.c, .slice x.modes.oad x.modes.l.length x.modes.c, .slice x.edges.oad x.edges.l.length x.edges.c]) rfl (by with_reducible repeat first | exact .here _ _ | apply Out.there | apply Out.app) tk_26 rfl (by rfl)) rfl ?_
            refine XL_det (.yes 39 rfl rfl rfl) (D_pure rfl) rfl ?_
            refine XL_call (.yes 39 rfl rfl rfl) en_34 rfl (rmode x hx hR (wN s x.tasks.l.length)) (by with_reducible repeat first | exact .nil _ | exact .here _ _ | exact Take.self _ | apply Take.cons | apply Out.there | apply Take.skip | exact Take.pre _ _ | apply Out.app) rfl ?_
            rintro _ _ ⟨rm, rfl, hrm, rfl⟩
            simp only [List.cons_append, List.nil_append]
            refine XL_det (.yes 39 rfl rfl rfl) (D_pure rfl) rfl ?_
            refine XL_det .no (D_pure rfl) rfl ?_
            refine XL_then ?_
            refine X_cond rfl (fun h6 => ?_) (fun h6 => ?_)
            · try simp only [decide_eq_true_eq, decide_eq_false_iff_not, Bool.not_eq_true', Bool.not_eq_false', beq_iff_eq, bne_iff_ne, beq_eq_false_iff_ne, bne_eq_false_iff_eq, Int.not_lt, Int.not_le, gt_iff_lt, ge_iff_le, ne_eq] at h6
              refine X_seq ?_
              refine X_region ?_
              refine XL_callk .no en_38 rfl (alive45 hK hd) (by with_reducible repeat first | exact .nil _ | exact .here _ _ | exact Take.self _ | apply Take.cons | apply Out.there | apply Take.skip | exact Take.pre _ _ | apply Out.app) rfl ?_
              refine XL_det .no (D_pure rfl) rfl ?_
              refine XL_then ?_
              refine X_ret ?_
              refine thenX_ret ?_
              refine ret_ok (.nil _) (res_tmp rfl rfl) ?_
              exact ⟨[K, Ki], ⟨rfl, rfl⟩, _, (by repeat first | (with_reducible first | exact .nil _ | exact .here _ _) | exact .here _ _ | (with_reducible first | exact Take.self _ | apply Take.cons | apply Out.there | apply Take.skip | exact Take.pre _ _ | apply Out.app))⟩
            · try simp only [decide_eq_true_eq, decide_eq_false_iff_not, Bool.not_eq_true', Bool.not_eq_false', beq_iff_eq, bne_iff_ne, beq_eq_false_iff_ne, bne_eq_false_iff_eq, Int.not_lt, Int.not_le, gt_iff_lt, ge_iff_le, ne_eq] at h6
              refine X_skip ?_
              refine thenX_normal ?_
              refine X_seq ?_
              refine X_region ?_
              refine XL_det .no (D_ldso (vs := [.int .i64 x.res, .slice x.tasks.oad x.tasks.l.length x.tasks.c, .slice x.modes.oad x.modes.l.length x.modes.c, .slice x.edges.oad x.edges.l.length x.edges.c]) rfl (by with_reducible repeat first | exact .here _ _ | apply Out.there | apply Out.app) tk_26 rfl (by rfl)) rfl ?_
              refine XL_det .no (D_pure rfl) rfl ?_
              refine XL_det .no (D_ldso (vs := encWay w) rfl (by with_reducible repeat first | exact .here _ _ | apply Out.there | apply Out.app) tk_81 rfl (by rfl)) rfl ?_
              refine XL_det .no (D_pure rfl) rfl ?_
              refine XL_det .no (D_add rfl rfl (by omega) (by omega)) rfl ?_
              refine XL_callk .no en_43 rfl ((by have h0 := wIdle (B := B) x hx hT s w hw ((r : Int) + 1) hK hd; rw [hid2] at h0; exact h0)) (by with_reducible repeat first | exact .nil _ | exact .here _ _ | exact Take.self _ | apply Take.cons | apply Out.there | apply Take.skip | exact Take.pre _ _ | apply Out.app) rfl ?_
              refine XL_det .no (D_pure rfl) rfl ?_
              refine XL_det .no (D_pure (v := .int .i64 (u : Int)) rfl) rfl ?_
              refine XL_det .no (D_pure (v := .bool true) rfl) rfl ?_
              refine XL_det .no (D_pure rfl) rfl ?_
              refine XL_det .no (D_pure rfl) rfl ?_
              refine XL_then ?_
              refine X_seq ?_
              refine X_region ?_
              refine XL_det .no (D_pure rfl) rfl ?_
              refine XL_det .no (D_pure rfl) rfl ?_
              refine XL_det (.yes 56 rfl rfl rfl) (D_pure rfl) rfl ?_
              refine XL_det (.yes 56 rfl rfl rfl) (D_pure rfl) rfl ?_
              refine XL_det (.yes 56 rfl rfl rfl) (D_pure (v := .bool true) (congrArg (fun b => some (Value.bool b)) (decide_eq_true (show (u : Int) ≤ (r : Int) by omega)))) rfl ?_
              refine XL_det .no (D_pure rfl) rfl ?_
              refine XL_det .no (D_pure rfl) rfl ?_
              refine XL_callk (.yes 61 rfl rfl rfl) en_38 rfl (alive45 hK hd) (by with_reducible repeat first | exact .nil _ | exact .here _ _ | exact Take.self _ | apply Take.cons | apply Out.there | apply Take.skip | exact Take.pre _ _ | apply Out.app) rfl ?_
              refine XL_det .no (D_pure rfl) rfl ?_
              refine XL_det .no (D_pure rfl) rfl ?_
              refine XL_then ?_
              refine X_ret ?_
              refine ret_ok (.nil _) (res_tmp rfl rfl) ?_
              exact ⟨[K, Ki], ⟨rfl, rfl⟩, _, (by repeat first | (with_reducible first | exact .nil _ | exact .here _ _) | exact .here _ _ | (with_reducible first | exact Take.self _ | apply Take.cons | apply Out.there | apply Take.skip | exact Take.pre _ _ | apply Out.app))⟩

end Go.Proofs.YtkkdchgnknpceaaDoor
end

section
namespace Go.Proofs.YtkkdchgnknpceaaDoor
open Go Go.Sl Go.ChangeShapes Go.WideShapes Go.ChangeAt Go.RowKit
set_option linter.unusedVariables false
abbrev tabT : Nat := 154
theorem ui_int : Tryd.prog.underlying 3 = some (.int .i64) := by kernel_rfl
theorem eqk_164 : eqKinds Tryd.prog 12 164 = some [some .i64, some .i64] := by kernel_rfl
theorem eqk_168 : eqKinds Tryd.prog 12 168 = some [some .i64, some .i64, some .i64, some .i64, some .i64, some .i64, some .i64, some .i64, some .i64, some .i64, some .i64, some .i64, some .i64, some .i64, some .i64, some .i64, some .i64, some .i64, some .i64, some .i64, some .i64, some .i64, some .i64] := by kernel_rfl
theorem eqk_48 : eqKinds Tryd.prog 12 48 = some [some .i64, some .i64, some .i64, some .i64, some .i64, some .i64, some .i64, some .i64, some .i64, some .i64, some .i64] := by kernel_rfl
theorem eqk_81 : eqKinds Tryd.prog 12 81 = some [some .i64, some .i64, some .i64, some .i64, some .i64, some .i64, some .i64, some .i64, some .i64, some .i64, some .i64, some .i64, some .i64, some .i64, some .i64, some .i64, some .i64] := by kernel_rfl
theorem eqk_83 : eqKinds Tryd.prog 12 83 = some [some .i64, some .i64, some .i64, some .i64, some .i64, some .i64, some .i64, some .i64, some .i64, some .i64, some .i64, some .i64, some .i64, some .i64, some .i64, some .i64, some .i64, some .i64] := by kernel_rfl

theorem sz_task : (Tryd.prog.info? 48).map (·.size) = some 11 := by kernel_rfl
theorem sz_edge : (Tryd.prog.info? 168).map (·.size) = some 23 := by kernel_rfl
theorem sz_q : (Tryd.prog.info? 164).map (·.size) = some 2 := by kernel_rfl
theorem sl_tasks : slcOf Tryd.prog 22 = some (48, 11) := by kernel_rfl
theorem sl_modes : slcOf Tryd.prog 23 = some (101, 2) := by kernel_rfl
theorem sl_edges : slcOf Tryd.prog 24 = some (168, 23) := by kernel_rfl
theorem sl_qs : slcOf Tryd.prog 99 = some (164, 2) := by kernel_rfl
theorem shp_img : shp Tryd.prog 26 = some [3, 22, 23, 24] := by kernel_rfl
theorem shp_mode : shp Tryd.prog 101 = some [36, 99] := by kernel_rfl
theorem ui_u32 : Tryd.prog.underlying 36 = some (.int .u32) := by kernel_rfl
/-- The fields' bounds. -/
def okT (e : Nat → Int) : Prop := fitK e 0 [some .i64, some .i64, some .i64, some .i64, some .i64, some .i64, some .i64, some .i64, some .i64, some .i64, some .i64]
def okE (e : Nat → Int) : Prop := fitK e 0 [some .i64, some .i64, some .i64, some .i64, some .i64, some .i64, some .i64, some .i64, some .i64, some .i64, some .i64, some .i64, some .i64, some .i64, some .i64, some .i64, some .i64, some .i64, some .i64, some .i64, some .i64, some .i64, some .i64]
structure Img.Ok (x : Img) : Prop where
  tasks : ∀ e ∈ x.tasks.l, okT e
  edges : ∀ e ∈ x.edges.l, okE e
theorem openImg {W : World} {v : Value} (h : ArgOk Tryd.prog W 26 v) : ∃ x : Img, v = x.v ∧ x.In (old (B := W.heap.size) W) ∧ x.Ok := by
  obtain ⟨H, enc, cs, rfl, p0, q0, rfl, ⟨n0, x0, h0⟩, p1, q1, rfl, ⟨n1, x1, h1⟩, p2, q2, rfl, ⟨n2, x2, h2⟩, p3, q3, rfl, ⟨n3, x3, h3⟩, rfl⟩ := arg_struct shp_img h
  obtain ⟨res, rfl, _, _⟩ := DataW.trod_int ui_int h0
  obtain ⟨ta, rfl, t1, t2⟩ := Arr.of_trod (encA := encT) (ok := okT) sl_tasks (by decide) h1 (fun n cs x hx => flat_dec eqk_48 sz_task hx)
  obtain ⟨ed, rfl, e1, e2⟩ := Arr.of_trod (encA := encE) (ok := okE) sl_edges (by decide) h3 (fun n cs x hx => flat_dec eqk_168 sz_edge hx)
  obtain ⟨mo, rfl, m1, m2⟩ := Arr.of_trod (encA := encM) (ok := fun m => Rd (old (B := W.heap.size) W) m.q.ad (m.q.l.flatMap encQ)) sl_modes (by decide) h2 (fun n cs x hx => by
    obtain ⟨p0, q0, rfl, ⟨n0, x0, h0⟩, p1, q1, rfl, ⟨n1, x1, h1⟩, rfl⟩ := struct_parts shp_mode hx
    obtain ⟨b, rfl, _, hb⟩ := DataW.trod_int ui_u32 h0
    obtain ⟨b, rfl⟩ := u32_bv hb
    obtain ⟨q, rfl, _, q2⟩ := Arr.of_trod (encA := encQ) (ok := fun _ => True) sl_qs (by decide) h1 (fun n cs x hx => by
      obtain ⟨e, he, _⟩ := flat_dec eqk_164 sz_q hx
      exact ⟨e, he, trivial⟩)
    exact ⟨⟨b, q⟩, rfl, q2⟩)
  exact ⟨⟨res, ta, mo, ed⟩, rfl, ⟨t2, m2, e2, m1⟩, ⟨t1, e1⟩⟩
theorem sz_w : (Tryd.prog.info? 81).map (·.size) = some 17 := by kernel_rfl
theorem ag_w : isAggB Tryd.prog 81 = true := by kernel_rfl
theorem sz_ask : (Tryd.prog.info? 83).map (·.size) = some 18 := by kernel_rfl
theorem ag_ask : isAggB Tryd.prog 83 = true := by kernel_rfl
theorem ui_set : Tryd.prog.underlying 37 = some (.int .u32) := by kernel_rfl
theorem fit_at {e : Nat → Int} : ∀ {n i j : Nat}, fitK e i (List.replicate n (some .i64)) → j < n → -9223372036854775808 ≤ e (i + j) ∧ e (i + j) ≤ 9223372036854775807
  | 0, _, _, _, h => absurd h (by omega)
  | n + 1, i, 0, h, _ => i64_fit h.1
  | n + 1, i, j + 1, h, hj => by rw [show i + (j + 1) = (i + 1) + j by omega]; exact fit_at (n := n) h.2 (by omega)
theorem openWay {W : World} {v : Value} (h : ArgOk Tryd.prog W 81 v) : ∃ w : Way, v = .agg (encWay w).toArray ∧ WayOk w := by
  obtain ⟨e, rfl, hf⟩ := arg_flat eqk_81 sz_w ag_w h
  exact ⟨⟨fun k => e k, e 16⟩, rfl, ⟨fun k hk => by have := fit_at (n := 17) (i := 0) (j := k) hf (by omega); rwa [Nat.zero_add] at this⟩⟩
theorem openAsk {W : World} {v : Value} (h : ArgOk Tryd.prog W 83 v) : ∃ (w : Way) (m : Int), v = .agg (encAsk w m).toArray ∧ WayOk w := by
  obtain ⟨e, rfl, hf⟩ := arg_flat eqk_83 sz_ask ag_ask h
  exact ⟨⟨fun k => e k, e 16⟩, e 17, rfl, ⟨fun k hk => by have := fit_at (n := 18) (i := 0) (j := k) hf (by omega); rwa [Nat.zero_add] at this⟩⟩

theorem own : ownKnob Tryd.prog.godebug = none := by kernel_rfl
theorem laidOut : laidOutB Tryd.prog = true := by kernel_rfl
abbrev laidT : List (String × DataW Unit) := [("math/bits.deBruijn32tab", Rows.laid_math_bits_deBruijn32tab)]
set_option maxRecDepth 100000 in
theorem laidTab {W : World} (h : laidMetH Tryd.prog laidT W) : Rd (old (B := W.heap.size) W) ⟨0, 0, none⟩ (tab32.map fun m => .int .u8 m) := by
  rw [MakeChecks.laidMetH_plain _ _ _ (by kernel_rfl)] at h
  rw [show laidT = [("math/bits.deBruijn32tab", .agg (tab32.map fun m => .lit (.int .u8 m)))] from by kernel_rfl] at h
  exact laid_row (tab := tab32) (t := tabT) (len := 32) (e := 5) (k := .u8) (by kernel_rfl) (by kernel_rfl) (by kernel_rfl) (by kernel_rfl) (by kernel_rfl) (by decide) h
theorem door_met (os : Os) (args : Array Value) : laidMetH Tryd.prog laidT ((World.doorLaid Tryd.prog 400 os).forCall (fun _ _ => 0) ⟨#[], args, []⟩).memory :=
  laidMetH_of_parts3 (fuel := 8) (laidMet_of_run' 8 (by kernel_rfl) (by kernel_rfl)) (by kernel_rfl) (by kernel_rfl)


set_option maxRecDepth 100000 in
/-- The walk, at the arguments as the row reads them. -/
theorem walkSimulIdle (W : World) (args : Array Value) (hL : laidMetH Tryd.prog laidT W) (h : ArgsOk Tryd.prog W Tryd.f8.params.toList args.toList) : Calls Tryd.prog 8 args W fun e w' => e = .returned (.bool true) ∧ Go.RowKit.Below W.heap.size W w' := by
  rw [show Tryd.f8.params.toList = [26, 37, 81] from by kernel_rfl] at h
  obtain ⟨args⟩ := args
  match args, h with
  | [v0, v1, v2], h =>
    have hK := laidTab hL
    obtain ⟨a0, a1, a2, _⟩ := h
    obtain ⟨x, rfl, hx, _⟩ := openImg a0
    obtain ⟨sm, rfl, hm⟩ := arg_int ui_set a1
    obtain ⟨s, rfl⟩ := u32_bv hm
    obtain ⟨w, rfl, hw⟩ := openWay a2
    exact calls_of (old_self W) (((simulIdle x hx s w hw hK (old_dup W)).dup (.here _ _) (old_dup W)).mono fun _ _ h => h.1)

set_option maxRecDepth 100000 in
theorem liftedSimulIdle (os : Os) (started : os.Started) (H : Type) (enc : TypeId × Value → H) :
    ReturnsInHanded {} Tryd.checked os 8 .any (fun w args => (Rows.simulIdleSpec.pre enc Tryd.prog Tryd.f8 [] false w args ∧ laidMetH Tryd.prog laidT w) ∧ sizedMet enc Tryd.prog Tryd.f8 (OpenSpec.ofChange Rows.simulIdleSpec) false w args) (Rows.simulIdleSpec.post enc Tryd.prog Tryd.f8 false true false false) :=
  handedL (C := Tryd.checked) (tb := 4) own started (by kernel_rfl) Tryd.func8 laidOut (by kernel_rfl) rfl
    (fun ds h => by
      have h : ds.length = 3 := h
      match ds, h with
      | [_, _, _], _ => exact ⟨rfl, rfl, rfl⟩) (by kernel_rfl) (by kernel_rfl)
    (ChangeSpec.witness_shaped (enc := enc) (C := Tryd.checked) (os := os) (X := fun w _ => laidMetH Tryd.prog laidT w) false (World.doorLaid Tryd.prog 400 os) #[.agg #[.int .i64 0, .slice none 0 0, .slice none 0 0, .slice none 0 0], .int .u32 0, .agg #[.int .i64 0, .int .i64 0, .int .i64 0, .int .i64 0, .int .i64 0, .int .i64 0, .int .i64 0, .int .i64 0, .int .i64 0, .int .i64 0, .int .i64 0, .int .i64 0, .int .i64 0, .int .i64 0, .int .i64 0, .int .i64 0, .int .i64 0]] 8 rfl (World.shaped_of_RefB (by kernel_rfl) (by kernel_rfl)) (by kernel_rfl) (by kernel_rfl) (by kernel_rfl) (door_met os _))
    (fun W args hL h => walkSimulIdle W args hL h)

theorem overSimulIdle : Rows.SimulIdleSaid :=
  OpenClaim.holds_of_wide 8 Tryd.f8 rfl rfl rfl rfl rfl rfl rfl ⟨rfl, rfl, rfl, rfl, rfl⟩ rfl rfl rfl rfl rfl (by kernel_rfl) Tryd.func8 (by kernel_rfl)
    (of_decide_eq_true (by kernel_rfl)) (by unfold Func.isWrapper; first | (rw [if_pos (by decide +kernel)]; kernel_rfl) | (rw [if_neg (by decide +kernel)]; exact ⟨rfl, rfl⟩))
    (fun os started H enc _ => liftedSimulIdle os started H enc)

/-- The statement: the tied card. -/
theorem provedSimulIdle : Rows.SimulIdleCardSaid :=
  Claim7.holds_tied_plain_at .later [] [.data] true (true, "44ef1e1e002b38ac2d72adeff89b3beb5f1b36ff56efcca0884e0dc2dba73968") false
    overSimulIdle (fun _ h => by cases h) (by kernel_rfl) (fun _ h => by cases h) simulIdle_row_tie rfl ⟨rfl, rfl⟩ (by kernel_rfl) rfl
    (fun f fn hf hfn => by
      obtain rfl : f = 8 := Option.some.inj ((show Tryd.prog.funcNamed "remontoir/remontoirlaw45.SimulIdle" = some 8 by kernel_rfl).symm.trans hf) |>.symm
      obtain rfl : fn = Tryd.f8 := (Option.some.inj (Tryd.func8.symm.trans hfn)).symm
      exact ⟨by kernel_rfl, fun j t ht => by
        have ht : t ∈ Tryd.f8.params.toList := by simpa using Array.mem_of_getElem? ht
        rw [show Tryd.f8.params.toList = [26, 37, 81] from by kernel_rfl] at ht
        have hall : ([26, 37, 81].all fun u => !Tryd.prog.wantsStandIn u) = true := by kernel_rfl
        exact (show Tryd.prog.wantsStandIn t = false by simpa using List.all_eq_true.1 hall t ht)⟩)
    (by kernel_rfl)

#print axioms provedSimulIdle
end Go.Proofs.YtkkdchgnknpceaaDoor
end
